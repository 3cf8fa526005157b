/-
  Parts of the proof. Conditions: each theorem's own.
-/
import Derived.Test.YtopnleflllkbmaaGreatDoorChecked
import Derived.WalkKit
import Derived.ProofKit
import Derived.Laws.AppendOwn
import Derived.Laws.CopyOwn
import Derived.Laws.MakeOwn
import Derived.RowKit3
import Derived.Deep.LoopGhost
import Derived.Orders
import Derived.OrdersIn
import Derived.TacticsIn
import Derived.RangeFuncRecord
import Derived.Laws.BytesArg
set_option linter.unusedVariables false
set_option linter.unusedSimpArgs false
set_option maxRecDepth 100000
set_option maxHeartbeats 8000000
open List Nat
theorem b9{p:Prop}[Decidable p](h:decide p=true):p:=of_decide_eq_true h
theorem b_{p:Prop}[Decidable p](h:decide p=false):¬p:=of_decide_eq_false h
theorem a8.{u}{c:Prop}{h:Decidable c}(n:¬c){α:Sort u}{t e:α}:(if c then t else e)=e:=if_neg n
theorem b7.{u}{c:Prop}{h:Decidable c}(n:c){α:Sort u}{t e:α}:(if c then t else e)=t:=if_pos n
theorem j6.{u,v}{α:Type u}{β:Type v}{l:List α}(f:α -> β):(l.map f).length=l.length:=length_map f
theorem j_.{u}{α:Type u}{l m:List α}:(l++m).length=l.length+m.length:=length_append
theorem j7.{u}{α:Type u}{a:α}{l:List α}:(a::l).length=l.length+1:=rfl
theorem r6.{u}{α:Type u}{a b:α}:a ∈ [b] ↔ a=b:=mem_singleton
theorem m9.{u}{α:Type u}{i:Nat}{a:α}{l:List α}:l[i]?=some a ↔ ∃h:i<l.length,l[i]=a:=List.getElem?_eq_some_iff
theorem m_.{u}{α:Type u}{l:List α}{i:Nat}(h:i<l.length):l[i]?=some l[i]:=getElem?_eq_getElem h
theorem g_(n:Nat):n <= n:=Nat.le_refl n
theorem j0{p:Prop}[Decidable p]:(decide p=true)=p:=decide_eq_true_eq
theorem p_{p:Prop}{x:Decidable p}:decide p=false ↔ ¬p:=decide_eq_false_iff_not
theorem k_(a b:Bool):((a&&b)=true)=(a=true /\ b=true):=Bool.and_eq_true a b
theorem m8.{u}{α:Type u}{l:List α}{i:Nat}{a:α}(h:l[i]?=some a):a ∈ l:=mem_of_getElem? h
theorem l_(n:Nat):(n:Int).toNat=n:=rfl
theorem l9.{u}{α:Type u}{b:α}{l:List α}{a:α}:a ∈ b::l ↔ a=b \/ a ∈ l:=mem_cons
theorem r_{n m:Nat}(h:n.ble m=true):n <= m:=le_of_ble_eq_true h
theorem q9.{u}{α:Type u}{i:Nat}{l:List α}:(l.take i).length=min i l.length:=length_take
theorem q6.{u}{α:Type u}{i:Nat}{l:List α}:(l.drop i).length=l.length-i:=length_drop
theorem q7.{u}{α:Type u}{a:α}:¬a ∈ ([]:List α):=not_mem_nil
theorem l7(n:Nat):0 <= n:=zero_le n
theorem r9(n:Nat):0+n=n:=Nat.zero_add n
theorem r8(b:Bool):((!b)=true)=(b=false):=Bool.not_eq_true' b
theorem r7.{u,v}{α:Type u}{β:Type v}{f:α -> β}{l:List α}{i:Nat}:(l.map f)[i]?=Option.map f l[i]?:=getElem?_map
theorem s8.{u}{α:Type u}{a:α}{l:List α}:a ∈ l ↔ ∃i:Nat,l[i]?=some a:=mem_iff_getElem?
theorem q8{x y:Bool}:(x||y)=false ↔ x=false /\ y=false:=Bool.or_eq_false_iff
theorem X{p:Prop}(h:p:=by omega):p:=h
theorem E_{p:Prop}(h:p:=by decide):p:=h
theorem F_{p:Prop}(h:p:=by simp_all):p:=h
theorem G_{p:Prop}(h:p:=by grind):p:=h
theorem H_{p:Prop}(h:p:=by simp):p:=h
theorem I_{q p:Prop}[Decidable q](h:decide q=true)(g:q->p:=by intro;omega):p:=g (of_decide_eq_true h)
theorem J_{q p:Prop}[Decidable q](h:decide q=false)(g:¬q->p:=by intro;omega):p:=g (of_decide_eq_false h)
theorem s_{p:Prop}(h:p:=by contradiction):p:=h
theorem w_{p:Prop}(h:p:=by with_reducible contradiction):p:=h
theorem Z{α:Sort _}{a:α}:a=a:=rfl
theorem T_:True:=trivial
theorem R_{α:Type _}{a:List α}{n}(h:a.length=n:=by rfl):∀r∈[a],r.length=n:=by intro r m;rw[mem_singleton]at m;subst m;exact h
theorem C_{α:Type _}{a b:α}(h:a=b:=by rfl):some a=some b:=congrArg some h
theorem X_{α:Sort _}{a:α}:∃b,b=a:=⟨a,Z⟩
abbrev B_:=ByteArray
theorem D_{α:Type _}{a b:α}(h:a=b:=by kernel_rfl):some a=some b:=congrArg some h
namespace Go.Abs
inductive GV where
 |ints (k:IntKind) (l:List Int)
 |face
def GV.holds:GV->Array Value->Prop
 |.ints k l,cs=>cs=(l.map λz=>Value.int k z).toArray
 |.face,cs=>∃t p,cs=#[.iface t p]
def ft:List (Nat×GV):=[(2,.ints .u64 [1,10,100,1000,10000,100000,1000000,10000000,100000000,1000000000,10000000000,100000000000,1000000000000,10000000000000,100000000000000,1000000000000000,10000000000000000,100000000000000000,1000000000000000000,10000000000000000000]),(5,.face),(4,.face)]
end Go.Abs
section
namespace Go.Abs
variable{w w':World}{I:Nat->Prop}
inductive PV where
 |int (k:IntKind) (n:Int)
 |bool (b:Bool)
 |str (s:B_)
 |sl (rows:List (List PV))
 |nilp
 |fn (f:FuncId)
 |nilfn
 |nils
 |nilm
 |slf (rows:List (List PV))
 |sat (p:Value->Prop)
 |ifc (t:TypeId) (p:PV)
 |ifa (t:TypeId) (ps:List PV)
 deriving Inhabited
inductive PRep(w:World)(I:Nat->Prop):Value->PV->Prop
 |int (k:IntKind) (n:Int):PRep w I (.int k n) (.int k n)
 |bool (b:Bool):PRep w I (.bool b) (.bool b)
 |str (s:B_):PRep w I (.string s) (.str s)
 |nilp:PRep w I (.pointer none) .nilp
 |fn (f:FuncId):PRep w I (.func (.func f) #[] #[]) (.fn f)
 |nilfn:PRep w I .nilFunc .nilfn
 |nilsl:PRep w I (.slice none 0 0) (.sl [])
 |nils:PRep w I (.slice none 0 0) .nils
 |nilm:PRep w I (.map none) .nilm
 |sat {v:Value} {p:Value->Prop} (h1:v.oneCell'=true) (h:p v):PRep w I v (.sat p)
 |slf (a:Addr) (n:Nat) (rows:List (List PV)) (h:PRep w I (.slice (some a) n n) (.sl rows)):PRep w I (.slice (some a) n n) (.slf rows)
 |ifc (t:TypeId) (v:Value) (p:PV) (h:PRep w I v p):PRep w I (.iface t v) (.ifc t p)
 |ifa (t:TypeId) (cs:Array Value) (ps:List PV) (hl:cs.size=ps.length) (h:∀(k:Nat) (c:Value) (p:PV),cs[k]?=some c->ps[k]?=some p->PRep w I c p):PRep w I (.iface t (.agg cs)) (.ifa t ps)
 |empsl (a:Addr):PRep w I (.slice (some a) 0 0) (.sl [])
 | sl (b off cap sz:Nat) (rows:List (List PV)) (cs:Nat->Nat->Value) (hI:I b) (hsz:0 < sz) (hlen:∀ r∈rows,r.length=sz) (hcap:rows.length<=cap)
   (hc:∀(i:Nat) (r:List PV),rows[i]?=some r->∀(k:Nat) (p:PV),r[k]?=some p->w.cell? ⟨b,off+i*sz+k,none⟩=some (cs i k))
   (hp:∀(i:Nat) (r:List PV),rows[i]?=some r->∀(k:Nat) (p:PV),r[k]?=some p->PRep w I (cs i k) p) :
   PRep w I (.slice (some ⟨b,off,none⟩) rows.length cap) (.sl rows)
theorem cell?_of_heap{b o}(h:w'.heap[b]?=w.heap[b]?):w'.cell? ⟨b,o,none⟩=w.cell? ⟨b,o,none⟩:=by simp[World.cell?,h]
theorem PRep.mono{w w'}{I q}(x:∀b,I b->w'.heap[b]?=w.heap[b]?)(A:∀b,I b->q b){v}{p}(h:PRep w I v p):PRep w' q v p:=by
 induction h with
 |int k n=>exact .int k n
 |bool b=>exact .bool b
 |str s=>exact .str s
 |nilp=>exact .nilp
 |fn f=>exact .fn f
 |nilfn=>exact .nilfn
 |nilsl=>exact .nilsl
 |nils=>exact .nils
 |nilm=>exact .nilm
 |sat y h=>exact .sat y h
 |slf a n e h d=>exact .slf a n _ d
 |ifc t v p h d=>exact .ifc t v p d
 |ifa t D ps d_ h d=>exact .ifa t _ _ d_ (λk c p m o=>d k c p m o)
 |empsl a=>exact .empsl a
 |sl b off cap sz e D u l j g m o d =>
  exact .sl b _ _ _ _ _ (A b u) l j g (λi r B k p z=>(cell?_of_heap (x b u)).trans (m i r B k p z)) d
theorem PRep.oneCell{w}{I}{v}{p}(h:PRep w I v p):v.oneCell'=true:=by cases h<;>first|rfl|omega
inductive AV where
 |any
 |pv (p:PV)
 |ref (id g i k:Nat)
 |pad (rows:List (List PV)) (i k:Nat)
 |osl (id g off len:Nat)
 |clo (f:FuncId) (caps:List AV)
 |bnd (f:FuncId) (xs:List AV)
 |agg (cs:List AV)
 |tup (vs:List AV)
 |mp (id g:Nat)
 |it (id g:Nat)
 |osc (id g off len c:Nat)
 |yld (id g:Nat)
 |raw (x:Go.Loop) (ts:List Nat)
 deriving Inhabited
structure Ob where
 g:Nat
 sz:Nat
 ty:TypeId
 rows:List (List AV)
abbrev aF:=List (Nat×Ob)
variable{H H':aF}
abbrev cY:=List (Nat×AV)
def aF.get:aF->Nat->Option Ob
 | [],_=>none
 |(i,o)::r,id=>cond (Nat.beq i id) (some o) (aF.get r id)
def aF.set:aF->Nat->Ob->aF
 | [],id,o=>[(id,o)]
 |(i,o')::r,id,o=>cond (Nat.beq i id) ((i,o)::r) ((i,o')::aF.set r id o)
def cY.get:cY->Nat->Option AV
 | [],_=>none
 |(i,v)::r,t=>cond (Nat.beq i t) (some v) (cY.get r t)
theorem pI(i:Nat):Nat.beq i i=true:=beq_refl i
theorem jR{i j:Nat}(h:i≠j):Nat.beq i j=false:=by
 cases e:Nat.beq i j with
 |false=>rfl
 |true=>simp_all
theorem aF.get_set_same(H:aF)(id)(o):(H.set id o).get id=some o:=by
 induction H with
 |nil=>simp[aF.set,aF.get,pI]
 |cons x r a =>
  have ⟨i,o'⟩:=x;cases e:Nat.beq i id with
  |true=>simp[aF.set,aF.get,e]
  |false=>simp[aF.set,aF.get,e,a]
theorem aF.get_set_other(H:aF){id j}(o)(h:j≠id):(H.set id o).get j=H.get j:=by
 induction H with
 |nil=>simp[aF.set,aF.get,jR (Ne.symm h)]
 | cons x r a =>
  have ⟨i,o'⟩:=x;cases e:Nat.beq i id with
  |true =>
   have:=eq_of_beq_eq_true e;subst this;simp[aF.set,aF.get,jR (Ne.symm h),e]
  |false=>simp[aF.set,aF.get,e,a]
theorem cY.get_cons_same(E:cY)(t)(v):cY.get ((t,v)::E) t=some v:=by simp[cY.get,pI]
theorem cY.get_cons_other(E:cY){t u}(v)(h:t≠u):cY.get ((t,v)::E) u=E.get u:=by simp[cY.get,jR h]
abbrev lQ:=Nat->Option (Nat×Nat)
variable{ι:lQ}
inductive VRel(w:World)(I:Nat->Prop)(ι:lQ)(H:aF):Value->AV->Prop
 |any (v:Value):VRel w I ι H v .any
 |pv {v:Value} {p:PV} (h:PRep w I v p):VRel w I ι H v (.pv p)
 | ref {v:Value} {id g i k:Nat} (o:Ob) (hH:H.get id=some o) (hg:g<=o.g) (h1:v.oneCell'=true)
   (h:o.g=g->0<o.sz/\∃b cap,ι id=some (b,cap)/\v=.pointer (some ⟨b,i*o.sz+k,none⟩)):VRel w I ι H v (.ref id g i k)
 | pad {rows:List (List PV)} {i k:Nat} (b off cap sz:Nat) (h:PRep w I (.slice (some ⟨b,off,none⟩) rows.length cap) (.sl rows)) (hsz:0 < sz) (hlen:∀ r∈rows,r.length=sz)
   (cs:Nat->Nat->Value) (hI:I b)
   (hc:∀(i:Nat) (r:List PV),rows[i]?=some r->∀(k:Nat) (p:PV),r[k]?=some p->w.cell? ⟨b,off+i*sz+k,none⟩=some (cs i k))
   (hp:∀(i:Nat) (r:List PV),rows[i]?=some r->∀(k:Nat) (p:PV),r[k]?=some p->PRep w I (cs i k) p) :
   VRel w I ι H (.pointer (some ⟨b,off+i*sz+k,none⟩)) (.pad rows i k)
 | osl {v:Value} {id g off len:Nat} (o:Ob) (hH:H.get id=some o) (hg:g<=o.g) (h1:v.oneCell'=true)
   (h:o.g=g->0<o.sz/\off+len<=o.rows.length /\
    ((∃b cap oo,ι id=some (b,cap)/\v=.slice (some ⟨b,oo,none⟩) len (cap - off)/\(off<cap\/off=0->oo=off*o.sz))\/(ι id=none/\v=.slice none 0 0/\off=0/\len=0))) :
   VRel w I ι H v (.osl id g off len)
 | clo {f:FuncId} {vs:Array Value} {caps:List AV} (hl:vs.size=caps.length) (h:∀ (i:Nat) (v:Value) (a:AV),vs[i]?=some v->caps[i]?=some a->VRel w I ι H v a) :
   VRel w I ι H (.func (.func f) #[] vs) (.clo f caps)
 | bnd {f:FuncId} {vs:Array Value} {xs:List AV} (hl:vs.size=xs.length) (h:∀ (i:Nat) (v:Value) (a:AV),vs[i]?=some v->xs[i]?=some a->VRel w I ι H v a) :
   VRel w I ι H (.func (.func f) vs #[]) (.bnd f xs)
 | agg {vs:Array Value} {cs:List AV} (hl:vs.size=cs.length) (h1:∀ (i:Nat) (v:Value),vs[i]?=some v->v.oneCell'=true) (h:∀ (i:Nat) (v:Value) (a:AV),vs[i]?=some v->cs[i]?=some a->VRel w I ι H v a) :
   VRel w I ι H (.agg vs) (.agg cs)
 | tup {vs:Array Value} {cs:List AV} (hl:vs.size=cs.length) (h:∀ (i:Nat) (v:Value) (a:AV),vs[i]?=some v->cs[i]?=some a->VRel w I ι H v a) :
   VRel w I ι H (.tuple vs) (.tup cs)
 |mp {v:Value} {id g:Nat} (o:Ob) (hH:H.get id=some o) (hg:g<=o.g) (h1:v.oneCell'=true) (h:o.g=g->o.sz=0/\∃b,ι id=some (b,0)/\v=.map (some b)):VRel w I ι H v (.mp id g)
 |it {v:Value} {id g:Nat} (o:Ob) (hH:H.get id=some o) (hg:g<=o.g) (h1:v.oneCell'=true) (h:o.g=g->o.sz=0/\∃b,ι id=some (b,1)/\v=.pointer (some ⟨b,0,none⟩)):VRel w I ι H v (.it id g)
 |yld {v:Value} {id g:Nat} (o:Ob) (hH:H.get id=some o) (hg:g<=o.g) (h1:v.oneCell'=true) (h:o.g=g->o.sz=0/\∃b,ι id=some (b,2)/\v=.func (.yield b) #[] #[]):VRel w I ι H v (.yld id g)
 | osc {v:Value} {id g off len c:Nat} (o:Ob) (hH:H.get id=some o) (hg:g<=o.g) (h1:v.oneCell'=true)
   (h:o.g=g->0<o.sz/\len<=c /\
    ((∃b oo,ι id=some (b,off+c)/\v=.slice (some ⟨b,oo,none⟩) len c/\(0<c\/off=0->oo=off*o.sz))\/(ι id=none/\v=.slice none 0 0/\off=0/\len=0/\c=0))) :
   VRel w I ι H v (.osc id g off len c)
def NG(ι:lQ)(H:aF)(b:Nat):Prop:=∃id o cap,H.get id=some o/\ι id=some (b,cap)
def xb(w:World)(I:Nat->Prop)(ι:lQ)(H:aF)(id:Nat)(o:Ob):Prop :=0<o.sz/\(∀r∈o.rows,r.length=o.sz) /\
  ((∃ b cap cs,ι id=some (b,cap)/\w.heap[b]?=some (.cells cs o.ty (0,0))/\¬ I b/\cs.size=cap*o.sz/\o.rows.length<=cap/\cap<=maxLen /\
      ∀(i:Nat) (r:List AV),o.rows[i]?=some r->∀(k:Nat) (a:AV),r[k]?=some a->∃v,cs[i*o.sz+k]?=some v/\v.oneCell'=true/\VRel w I ι H v a) \/
   (ι id=none/\o.rows=[]))
def Og(w:World)(I:Nat->Prop)(ι:lQ)(H:aF)(id:Nat)(o:Ob):Prop :=o.sz=0/\∃b es,ι id=some (b,0)/\w.heap[b]?=some (.map es o.ty)/\¬ I b/\es.size=o.rows.length /\
  (∀(i:Nat) (e:MapEntry),es[i]?=some e->e.born<o.ty)/\(∀(i j:Nat) (e e':MapEntry),i<j->es[i]?=some e->es[j]?=some e'->e.born<e'.born) /\
  ∀(i:Nat) (r:List AV),o.rows[i]?=some r->∃e k a n,es[i]?=some e/\r=[k,a,n]/\VRel w I ι H e.key k/\VRel w I ι H e.val a/\VRel w I ι H (.int .i64 e.born) n
def Vz(w:World)(I:Nat->Prop)(ι:lQ)(H:aF)(id:Nat)(o:Ob):Prop :=o.sz=0/\∃b bm since seen last,ι id=some (b,1)/\w.heap[b]?=some (.mapIter bm since seen last)/\¬ I b/\o.rows.length=seen.size+1 /\
  (∃m n k,o.rows[0]?=some [m,n,k]/\VRel w I ι H (.map bm) m/\VRel w I ι H (.int .i64 since) n/\VRel w I ι H (.int .i64 last) k) /\
  ∀(i:Nat) (r:List AV),o.rows[i+1]?=some r->∃x n,seen[i]?=some x/\r=[n]/\VRel w I ι H (.int .i64 x) n
def Od(w:World)(I:Nat->Prop)(ι:lQ)(H:aF)(id:Nat)(o:Ob):Prop :=o.sz=0/\∃b x,ι id=some (b,2)/\w.heap[b]?=some (.loop x)/\¬ I b/\∀y ts r,o.rows=[[.raw y ts],r]->x=y/\∀(i t:Nat) (a:AV),ts[i]?=some t->r[i]?=some a->∃c,x.tmps[t]?=some c/\VRel w I ι H c a
def Nw(w:World)(I:Nat->Prop)(ι:lQ)(H:aF)(id:Nat)(o:Ob):Prop :=o.sz=0/\∃b s p,ι id=some (b,1)/\w.heap[b]?=some (.stringIter s p)/\¬ I b/\o.rows.length=1/\∃m k,o.rows[0]?=some [m,k]/\VRel w I ι H (.string s) m/\VRel w I ι H (.int .i64 p) k
def lP(w:World)(I:Nat->Prop)(ι:lQ)(H:aF)(id:Nat)(o:Ob):Prop:=xb w I ι H id o\/Og w I ι H id o\/Vz w I ι H id o\/Od w I ι H id o\/Nw w I ι H id o
theorem lP.cells{w}{I}{ι}{H}{id}{o}(h:lP w I ι H id o)(hz:0<o.sz):xb w I ι H id o:=by
 rcases h with h|h|h|h|h
 ·exact h
 all_goals(have:=h.1;omega)
theorem lP.map{w}{I}{ι}{H}{id}{o}(h:lP w I ι H id o)(hz:o.sz=0){b}(a:ι id=some (b,0)):Og w I ι H id o:=by
 rcases h with h|h|⟨_,d,_,_,_,_,c,_⟩|⟨_,d,_,c,_⟩|⟨_,d,_,_,c,_⟩
 ·have:=h.1;omega
 ·exact h
 all_goals(rw[a]at c;cases c)
theorem lP.str{w}{I}{ι}{H}{id}{o}(h:lP w I ι H id o)(hz:o.sz=0){b}(a:ι id=some (b,1)){m k}(g:o.rows[0]?=some [m,k]):Nw w I ι H id o:=by
 rcases h with h|⟨_,d,_,c,_⟩|⟨_,_,_,_,_,_,_,_,_,_,⟨_,_,_,c,_⟩,_⟩|⟨_,d,_,c,_⟩|h
 ·have:=h.1;omega
 ·rw[a]at c;cases c
 ·rw[g]at c;cases c
 ·rw[a]at c;cases c
 exact h
theorem lP.rec{w}{I}{ι}{H}{id}{o}(h:lP w I ι H id o)(hz:o.sz=0){b}(a:ι id=some (b,2)):Od w I ι H id o:=by
 rcases h with h|⟨_,d,_,c,_⟩|⟨_,d,_,_,_,_,c,_⟩|h|⟨_,d,_,_,c,_⟩
 ·have:=h.1;omega
 ·rw[a]at c;cases c
 ·rw[a]at c;cases c
 ·exact h
 rw[a]at c;cases c
theorem lP.block{w}{I}{ι}{H}{id b cap}{o}(h:lP w I ι H id o)(hi:ι id=some (b,cap)):b<w.heap.size/\¬ I b:=by rcases h with⟨_,_,⟨d,cap',cs,c,e,a,_⟩|h1⟩|⟨_,d,es,c,e,a,_⟩|⟨_,d,bm,since,seen,last,c,e,a,_⟩|⟨_,d,x,c,e,a,_⟩|⟨_,d,x,y,c,e,a,_⟩;all_goals grind
theorem lP.pos{w}{I}{ι}{H}{id b cap}{o}{cs}{t}{f}(h:lP w I ι H id o)(hi:ι id=some (b,cap))(hb:w.heap[b]?=some (.cells cs t f)):0<o.sz:=by
 rcases h with h|⟨_,d,es,c,a,_⟩|⟨_,d,bm,since,seen,last,c,a,_⟩|⟨_,d,x,c,a,_⟩|⟨_,d,x,y,c,a,_⟩
 ·exact h.1
 all_goals simp_all
theorem cu{rows rows'}(d:rows.length=rows'.length)(h:∀(i:Nat) (r'),rows'[i]?=some r'->∃r,rows[i]?=some r/\r.length=r'.length/\∀(k:Nat) (a a':AV),r[k]?=some a->r'[k]?=some a'->∀y c,a'=.raw y c->a=.raw y c):
  ∀y c r',rows'=[[.raw y c],r']->∃r,rows=[[.raw y c],r]:=by
 rintro y c r' rfl
 match rows,d with
 | [a,b],_ =>
  have ⟨r,g,f,e⟩:=h 0 _ Z;cases g
  match a,f with
  | [x],_=>exact⟨b,by rw[e 0 x _ Z Z y _ rfl]⟩
theorem lP.keepG{z_:Nat->Prop}{D:lQ}{id N:Nat}{o o':Ob}(h:lP w I ι H id o)(hsz:o'.sz=o.sz)(Q:o'.ty=o.ty)(R:o'.rows.length=o.rows.length)
  (K:∀y f_ r',o'.rows=[[.raw y f_],r']->∃r,o.rows=[[.raw y f_],r])
  (l:D N=ι id) (u_:∀b cap,ι id=some (b,cap)->b<w.heap.size->w'.heap[b]?=w.heap[b]?/\(¬ I b->¬ z_ b))
  (L:∀(i:Nat) (r':List AV),o'.rows[i]?=some r'->∃r,o.rows[i]?=some r/\r.length=r'.length/\∀(k:Nat) (a a':AV),r[k]?=some a->r'[k]?=some a'->∀v,VRel w I ι H v a->VRel w' z_ D H' v a'):lP w' z_ D H' N o':=by
 rcases h with⟨p1,p2,⟨b,cap,cs,d,g,B,v_,e5,y_,o_⟩|⟨d,g⟩⟩|⟨p1,b,es,d,g,B,v_,e5,o_,e7⟩|⟨p1,b,bm,F,seen,P,d,g,B,v_,⟨m,n,q,u,d_,A,W⟩,o_⟩|⟨p1,b,x,d,g,B,v_⟩|⟨p1,b,x,y,d,g,B,v_,m,n,u,d_,A⟩
 ·have ⟨G,E⟩:=u_ b cap d (Array.getElem?_eq_some_iff.1 g).1;refine .inl ⟨X,λr' A_=>?_,.inl ⟨b,cap,cs,l.trans d,F_,E B,F_,X,y_,λi r' c_ k a' hk=>?_⟩⟩
  ·have ⟨i,c_⟩:=s8.1 A_
   grind
  have ⟨r,p,s,f⟩:=L i r' c_;have T:k<r.length:=G_
  have ⟨v,u,d_,A⟩:=o_ i r p k _ (m_ T);exact⟨v,by rw[hsz];exact u,d_,f k _ a' (m_ T) hk v A⟩
 ·have e_:o'.rows=[]:=eq_nil_of_length_eq_zero (by rw[R,g];rfl);exact .inl ⟨X,by rw[e_];simp,.inr ⟨l.trans d,e_⟩⟩
 ·have ⟨G,E⟩:=u_ b 0 d (Array.getElem?_eq_some_iff.1 g).1;refine .inr (.inl ⟨X,b,es,l.trans d,by rw[Q];exact G.trans g,E B,X,by rw[Q];exact e5,o_,λi r' c_=>?_⟩);have ⟨r,p,s,f⟩:=L i r' c_;have ⟨e,k,a,n,u,d_,A,W,z5⟩:=e7 i r p;subst d_
  match r',s with
  | [k',a',z],_=>exact⟨e,k',a',z,u,Z,f 0 k k' Z Z _ A,f 1 a a' Z Z _ W,f 2 n z Z Z _ z5⟩
 ·obtain ⟨G,E⟩:=u_ b 1 d (Array.getElem?_eq_some_iff.1 g).1;refine .inr (.inr (.inl ⟨by omega,b,bm,F,seen,P,l.trans d,G.trans g,E B,by omega,?_,λi r' c_=>?_⟩))
  ·have j:0<o'.rows.length:=X
   have ⟨r,p,s,f⟩:=L 0 _ (m_ j);rw[u]at p;obtain rfl:=Option.some.inj p;have e_:=m_ j;generalize o'.rows[0]=r' at s f e_
   match r',s with
   | [m',z,q'],_=>exact⟨m',z,q',e_,f 0 m m' Z Z _ d_,f 1 n z Z Z _ A,f 2 q q' Z Z _ W⟩
  have ⟨r,p,s,f⟩:=L (i+1) r' c_;have ⟨x,n,y1,y2,y3⟩:=o_ i r p;subst y2
  match r',s with
  | [z],_=>exact⟨x,z,y1,Z,f 0 n z Z Z _ y3⟩
 ·have ⟨G,E⟩:=u_ b 2 d (Array.getElem?_eq_some_iff.1 g).1;refine .inr (.inr (.inr (.inl ⟨X,b,x,l.trans d,G.trans g,E B,λy f_ r' hy=>?_⟩)));have ⟨r,hr⟩:=K y f_ r' hy;have ⟨p,s⟩:=v_ y f_ r hr;refine⟨p,λi t a' ht ha=>?_⟩;have ⟨r0,u,d_,A⟩:=L 1 r' (by rw[hy];rfl);rw[hr]at u;cases u;have j:i<r.length:=by rw[d_];exact(m9.1 ha).1
  have ⟨c,c1,c2⟩:=s i t _ ht (m_ j);exact⟨c,c1,A i _ a' (m_ j) ha c c2⟩
 have ⟨G,E⟩:=u_ b 1 d (Array.getElem?_eq_some_iff.1 g).1;refine .inr (.inr (.inr (.inr ⟨X,b,x,y,l.trans d,G.trans g,E B,X,?_⟩)));have j:0<o'.rows.length:=X
 have ⟨r,p,s,f⟩:=L 0 _ (m_ j);rw[u]at p;obtain rfl:=Option.some.inj p;have e_:=m_ j;generalize o'.rows[0]=r' at s f e_
 match r',s with
 | [m',z],_=>exact⟨m',z,e_,f 0 m m' Z Z _ d_,f 1 n z Z Z _ A⟩
theorem lP.keep{w w'}{I f}{ι c}{H H'}{id}{o}(h:lP w I ι H id o)
  (e:c id=ι id) (n:∀b cap,ι id=some (b,cap)->b<w.heap.size->w'.heap[b]?=w.heap[b]?/\(¬ I b->¬ f b))
  (m:∀r∈o.rows,∀a∈r,∀v,VRel w I ι H v a->VRel w' f c H' v a):lP w' f c H' id o :=
 h.keepG Z Z Z (λ_ _ r h=>⟨r,h⟩) e n λi r l=>⟨r,l,Z,λk a a' g j v d=>by
  rw[g]at j;cases j;exact m r (m8 l) a (m8 g) v d⟩
def T3(I:Nat->Prop)(w:World):Prop:=∀p∈ft,I p.1/\∃cs t f,w.heap[p.1]?=some (.cells cs t f)/\p.2.holds cs
theorem T3.mono{w w'}{I a}(hw:∀b,I b->w'.heap[b]?=w.heap[b]?)(hI:∀b,I b->a b)(h:T3 I w):T3 a w':=λp c=>by
 have ⟨h1,cs,t,f,h2,h3⟩:=h p c
 simp_all
structure Rel(I:Nat->Prop)(ι:lQ)(H:aF)(w:World):Prop where
 imm:∀b,I b->b<w.heap.size
 obj:∀id o,H.get id=some o->lP w I ι H id o
 inj:∀id id' o o' b c c',H.get id=some o->H.get id'=some o'->ι id=some (b,c)->ι id'=some (b,c')->id=id'
 glob:T3 I w
structure Step(I:Nat->Prop)(ι:lQ)(H:aF)(w:World)(I':Nat->Prop)(ι':lQ)(H':aF)(w':World):Prop where
 os:w'.os=w.os
 tape:w'.tape=w.tape
 output:w'.output=w.output
 size:w.heap.size<=w'.heap.size
 froz:∀a,a.block<w.heap.size->¬ NG ι H a.block->w'.frozen? a=w.frozen? a
 imm:∀b,I b->I' b
 immNew:∀b,I' b->I b\/NG ι H b\/w.heap.size<=b
 own:∀b,NG ι' H' b->NG ι H b\/w.heap.size<=b
 keep:∀b,b<w.heap.size->¬ NG ι H b->w'.heap[b]?=w.heap[b]?
 objs:∀id o,H.get id=some o->∃o',H'.get id=some o'/\o.g<=o'.g/\(o'.g=o.g->ι' id=ι id/\o'.sz=o.sz/\(0<o.sz->o.rows.length<=o'.rows.length))
theorem Rel.lt{I}{ι}{H}{w}(h:Rel I ι H w){b}(d:NG ι H b):b<w.heap.size :=let ⟨id,o,_,a,c⟩:=d;((h.obj _ o a).block c).1
theorem Rel.notImm{I}{ι}{H}{w}(h:Rel I ι H w){b}(d:NG ι H b):¬ I b :=let ⟨id,o,_,a,c⟩:=d;((h.obj _ o a).block c).2
theorem Step.refl(I)(ι)(H)(w):Step I ι H w I ι H w :=⟨Z,Z,Z,g_ _,λ_ _ _=>rfl,λ_ h=>h,λ_ h=>.inl h,λ_ h=>.inl h,λ_ _ _=>rfl,λ_ o h=>⟨o,h,g_ _,λ_=>⟨Z,Z,λ_=>g_ _⟩⟩⟩
theorem Step.trans{p l:Nat->Prop}{g e:lQ}{i:aF}{k:World}(h:Step I ι H w p g H' w')(d:Step p g H' w' l e i k):
  Step I ι H w l e i k where
 os:=d.os.trans h.os
 tape:=d.tape.trans h.tape
 output:=d.output.trans h.output
 size:=Nat.le_trans h.size d.size
 froz:=λa q n=>(d.froz a (Nat.lt_of_lt_of_le q h.size) (λj=>by
  rcases h.own _ j with c|c;all_goals grind)).trans (h.froz a q n)
 imm:=λb f=>d.imm b (h.imm b f)
 immNew:=λb f=>by
  rcases d.immNew b f with c|c|c
  ·exact h.immNew b c
  ·exact .inr (h.own b c)
  exact .inr (.inr (Nat.le_trans h.size c))
 own:=λb f=>by
  rcases d.own b f with c|c
  ·exact h.own b c
  exact .inr (Nat.le_trans h.size c)
 keep:=λb f n=>by
  have m:¬ NG g H' b:=λj=>by
   rcases h.own b j with c|c;all_goals grind
  exact(d.keep b (Nat.lt_of_lt_of_le f h.size) m).trans (h.keep b f n)
 objs:=λid o j=>by
  obtain ⟨r,s,l1,k1⟩:=h.objs id o j;obtain ⟨o2,e2,l2,k2⟩:=d.objs id r s
  grind
theorem VRel.mono'{E:Nat->Prop}{t:lQ}(x:∀b,I b->w'.heap[b]?=w.heap[b]?)(y:∀b,I b->E b)
  (s:∀id o,H.get id=some o->∃o',H'.get id=some o'/\o.g<=o'.g/\(o'.g=o.g->t id=ι id/\o'.sz=o.sz/\(0<o.sz->o.rows.length<=o'.rows.length)))
  {v:Value} {a:AV} (h:VRel w I ι H v a):VRel w' E t H' v a:=by
 induction h with
 |any v=>exact .any v
 |pv h=>exact .pv (h.mono x y)
 |ref o f d c h =>
  have ⟨o',e,l,k⟩:=s _ o f;refine .ref o' e (Nat.le_trans d l) c λg=>?_
  grind
 |pad b D z c_ h A u G F K L =>
  exact .pad b D z c_ (h.mono x y) A u G (y b F) (λi r d_ k p B=>(cell?_of_heap (x b F)).trans (K i r d_ k p B)) (λi r d_ k p B=>(L i r d_ k p B).mono x y)
 |osl o f d c h =>
  have ⟨o',e,l,k⟩:=s _ o f;refine .osl o' e (Nat.le_trans d l) c λg=>?_
  grind
 |clo q h n=>exact .clo q λi v a m j=>n i v a m j
 |bnd q h n=>exact .bnd q λi v a m j=>n i v a m j
 |agg q e_ h n=>exact .agg q e_ λi v a m j=>n i v a m j
 |tup q h n=>exact .tup q λi v a m j=>n i v a m j
 |mp o f d c h =>
  have ⟨o',e,l,k⟩:=s _ o f;refine .mp o' e (Nat.le_trans d l) c λg=>?_
  grind
 |it o f d c h =>
  have ⟨o',e,l,k⟩:=s _ o f;refine .it o' e (Nat.le_trans d l) c λg=>?_
  grind
 |yld o f d c h =>
  have ⟨o',e,l,k⟩:=s _ o f;refine .yld o' e (Nat.le_trans d l) c λg=>?_
  grind
 |osc o f d c h =>
  have ⟨o',e,l,k⟩:=s _ o f;refine .osc o' e (Nat.le_trans d l) c λg=>?_
  grind
section inv
variable{v:Value}
theorem VRel.pv_inv{p}(h:VRel w I ι H v (.pv p)):PRep w I v p:=by cases h with|pv h=>exact h
theorem VRel.bool_inv{b}(h:VRel w I ι H v (.pv (.bool b))):v=.bool b:=by cases h with|pv h=>cases h;rfl
theorem VRel.int_inv{k}{n}(h:VRel w I ι H v (.pv (.int k n))):v=.int k n:=by cases h with|pv h=>cases h;rfl
theorem VRel.str_inv{s}(h:VRel w I ι H v (.pv (.str s))):v=.string s:=by cases h with|pv h=>cases h;rfl
theorem VRel.nilp_inv(h:VRel w I ι H v (.pv .nilp)):v=.pointer none:=by cases h with|pv h=>cases h;rfl
theorem VRel.fn_inv{f}(h:VRel w I ι H v (.pv (.fn f))):v=.func (.func f) #[] #[]:=by cases h with|pv h=>cases h;rfl
end inv
theorem Step.imms{I e}{ι a}{H H'}{w w'}(h:Step I ι H w e a H' w')(c:Rel I ι H w):∀b,I b->w'.heap[b]?=w.heap[b]? :=λb d=>h.keep b (c.imm b d) (λf=>c.notImm f d)
theorem Step.glob{I c}{ι a}{H H'}{w w'}(h:Step I ι H w c a H' w')(b:Rel I ι H w):T3 c w':=b.glob.mono (h.imms b) h.imm
theorem VRel.mono{w w'}{I d}{ι b}{H H'}(e:Rel I ι H w)(c:Step I ι H w d b H' w')
  {v} {a} (h:VRel w I ι H v a):VRel w' d b H' v a:=h.mono' (c.imms e) c.imm c.objs
end Go.Abs
end
section
namespace Go
def Oper.uponW(P:Program)(o:Oper)(a:Act)(next:Act->World->Prop)(Q:Exit->Act->World->Prop):Result Next->Prop
 |.ok (.value v) w'=>next (a.put o.dst v) w'
 |.ok .skip w'=>next (a.put o.dst undef) w'
 |.ok (.defer d) w'=>next ({a with defers:=d::a.defers}.put o.dst undef) w'
 | .ok (.enter f args) w'=>Calls P f args w' fun
   |.returned v,w''=>next (a.put o.dst v) w''
   |.panicked chain,w''=>Q (.panic chain) a w''
   |.outgrown,_=>LetsOut Q
 |.ok (.row row args) w'=>Rows P row args w' λv w''=>next (a.put o.dst v) w''
 | .ok (.round l f tmps assign body) w'=>RoundIn Fence.wide 0 P l f tmps assign body w' fun
   |.returned v,w''=>next (a.put o.dst v) w''
   |.panicked chain,w''=>Q (.panic chain) a w''
   |.outgrown,_=>LetsOut Q
 |.halt (.panic v) w'=>Q (.panic [{v,recovered:=false}]) a w'
 |_=>False
def Oper.wpW(P:Program)(o:Oper)(a:Act)(w:World)(next:Act->World->Prop)(Q:Exit->Act->World->Prop):Prop :=o.uponW P a next Q ((execOp a.eval o).run P w)
theorem Oper.uponW_enter(P)(o:Oper)(a)(b)(Q)(w)(f)(args):o.uponW P a b Q (.ok (.enter f args) w)=Calls P f args w fun
  |.returned v,c=>b (a.put o.dst v) c
  |.panicked d,c=>Q (.panic d) a c
  |.outgrown,_=>LetsOut Q:=rfl
def RF(ro:Option Nat):Fence:={Fence.wide with round:=ro}
def Oper.noDefer(o:Oper):Bool:=match o.op with|.defer _=>false|_=>true
theorem Oper.wpW_in{P:Program}{o:Oper}{a:Act}{w:World}{b:Act->World->Prop}{Q:Exit->Act->World->Prop}{ro:Option Nat}(j:ro=none\/o.noDefer=true)(h:o.wpW P a w b Q):o.wpIn (RF ro) 0 P a w b Q:=by
 refine⟨λ_ _=>trivial,?_⟩;have e:o.semAt (RF ro).round a.eval=execOp a.eval o:=by
  rcases j with rfl|j
  ·rfl
  exact Oper.semAt_eq _ _ _ (λc n=>by rw[Oper.noDefer,n]at j;cases j)
 rw[e];unfold Oper.wpW at h;generalize (execOp a.eval o).run P w=r at h |-
 match r,h with
 |.ok (.value v) g,h=>exact h
 |.ok .skip g,h=>exact h
 |.ok (.defer d) g,h=>exact h
 |.ok (.enter f i) g,h=>exact⟨(λq=>by cases q),(callsIn_wide (n:=0)).2 h⟩
 |.ok (.row row i) g,h=>exact⟨(λq=>by cases q),λc k _=>let ⟨v,m,r,s⟩:=h c k;⟨v,m,r,stepsIn_wide.2 s⟩⟩
 |.ok (.round l f tmps assign body) g,h=>exact⟨(λq=>by cases q),h⟩
 |.halt (.panic v) g,h=>exact h
def zN:Code->Bool
 |.seq a b|.cond _ a b=>zN a&&zN b
 |.block _ c|.loop c|.scope c=>zN c
 |.region _ ops _=>ops.toList.all Oper.noDefer
 |.rangeFunc _ _ _ _=>false
 |_=>true
theorem N7{F}{n}{P}{Q}{a}{w}{c}(I:Nat->Act->World->Prop)(b)(h:I b a w)
  (d:∀i a w,I i a w->c.wpIn F n P (Exit.then (λa' w'=>∃m,m<i/\I m a' w') Q) a w):(Code.loop c).wpIn F n P Q a w:=by
 refine wpIn_loop (λa w=>∃n,I n a w) (λa w=>leastOf (λn=>I n a w)) ⟨b,h⟩ ?_;intro a w k;refine wpIn_mono (d _ a w (leastOf_spec k).1) ?_;intro e a' w' g;cases e with
 |normal =>
  have ⟨i,j,f⟩:=g;exact show (∃n,I n _ _)/\leastOf _<leastOf _ from⟨⟨i,f⟩,Nat.lt_of_le_of_lt ((leastOf_spec ⟨i,f⟩).2 _ f) j⟩
 |exit id=>exact g
 |goto l=>exact g
 |ret=>exact g
 |panic ch=>exact g
 |outgrown=>exact g
end Go
namespace Go.Abs
def lJ(w:World)(I:Nat->Prop)(ι:lQ)(H:aF)(E:cY)(a:Act):Prop:=∀t v,E.get t=some v->∃c,a.tmps[t]?=some c/\VRel w I ι H c v
structure Entry where
 I:Nat->Prop
 ι:lQ
 H:aF
 w:World
 ds:List Deferred
def mark(D:Nat):Deferred:={target:=.collected D,args:=#[]}
def tU(ds0:List Deferred)(w0 w:World)(ds:List Deferred):Prop:=∃Ds:List Nat,ds=Ds.map mark++ds0/\Ds.Nodup/\∀D∈Ds,w0.heap.size<=D/\w.heap[D]?=some (.deferred (some []))
theorem tU.nil(a)(b w):tU a b w a:=⟨[],Z,nodup_nil,λD h=>by cases h⟩
structure St(G:Entry)(N:Nat)(E:cY)(H:aF)(a:Act)(w:World):Prop where
 defers:tU G.ds G.w w a.defers
 size:a.tmps.size=N
 rel:∃I ι,Rel I ι H w/\Step G.I G.ι G.H G.w I ι H w/\lJ w I ι H E a
def gG(P:Program)(G0:aF)(N:Nat)(c:Code)(Q:Exit->cY->aF->Prop)(E:cY)(H:aF):Prop :=∀G:Entry,G.H=G0->∀a w,St G N E H a w->∀ro,(ro=none\/zN c=true)->c.wpIn (RF ro) 0 P (λe a w=>∃E H,Q e E H/\St G N E H a w) a w
def cL(G0:aF)(E:cY)(H:aF)(E':cY)(H':aF):Prop:=∀G:Entry,G.H=G0->∀N a w,St G N E H a w->St G N E' H' a w
def aU(P:Program)(f:FuncId)(args:List AV)(H:aF)(Q:AV->aF->Prop):Prop :=∀(I:Nat->Prop) (ι:lQ) (w:World) (vs:Array Value),Rel I ι H w->vs.size=args.length->(∀(i:Nat) (v:Value) (a:AV),vs[i]?=some v->args[i]?=some a->VRel w I ι H v a) ->
  Calls P f vs w λe w'=>∃r H' I' ι' v,e=.returned v/\Q r H'/\VRel w' I' ι' H' v r/\Rel I' ι' H' w'/\Step I ι H w I' ι' H' w'
theorem aU.mono{P}{f}{args}{H}{Q c}(h:aU P f args H Q)(k:∀r H',Q r H'->c r H'):aU P f args H c :=λI ι w vs j i g=>(h I _ w _ j i g).mono λ_ _ ⟨r,H',d,b,v,e,q,a⟩=>⟨r,H',d,b,v,e,k _ _ q,a⟩
section control
variable{P:Program}{G0:aF}{N:Nat}{Q:Exit->cY->aF->Prop}{E:cY}{H:aF}
theorem gG.mono{c}{b}(h:gG P G0 N c Q E H)(d:∀e E H,Q e E H->b e E H):gG P G0 N c b E H :=λG g a w i ro f=>wpIn_mono (h G g a w i _ f) λ_ _ _ ⟨E,H,q,s⟩=>⟨E,H,d _ _ _ q,s⟩
theorem gG.ent{c}{E'}{H'}(f:cL G0 E H E' H')(h:gG P G0 N c Q E' H'):gG P G0 N c Q E H :=λG b a w d ro e=>h G b a w (f G b N a w d) _ e
theorem aB(h:Q .normal E H):gG P G0 N .skip Q E H:=λ_ _ _ _ a _ _=>wpIn_skip ⟨E,H,h,a⟩
theorem Br{l}(h:Q .normal E H):gG P G0 N (.label l) Q E H:=λ_ _ _ _ a _ _=>wpIn_label ⟨E,H,h,a⟩
theorem aC(h:Q .ret E H):gG P G0 N .ret Q E H:=λ_ _ _ _ a _ _=>wpIn_ret ⟨E,H,h,a⟩
theorem aP{id}(h:Q (.exit id) E H):gG P G0 N (.exit id) Q E H:=λ_ _ _ _ a _ _=>wpIn_exit ⟨E,H,h,a⟩
def yX(K:cY->aF->Prop)(Q:Exit->cY->aF->Prop):Exit->cY->aF->Prop
 |.normal,E,H=>K E H
 |e,E,H=>Q e E H
theorem K3{x y}(h:gG P G0 N x (yX (gG P G0 N y Q) Q) E H):gG P G0 N (.seq x y) Q E H:=by intro G c a w i ro b;have d:=b.imp id λh=>(k_ _ _▸h).1;have j:=b.imp id λh=>(k_ _ _▸h).2;refine wpIn_seq (wpIn_mono (h G c a w i _ d) ?_);rintro e a' w' ⟨f,g,q,s⟩;cases e<;>first|exact q G c _ _ s _ j|exact⟨f,g,q,s⟩
theorem qj{x y}(E')(H')(h:gG P G0 N x (yX (λa H1=>cL G0 a H1 E' H') Q) E H)(b:gG P G0 N y Q E' H'):gG P G0 N (.seq x y) Q E H :=K3 (h.mono λe a H1 q=>by cases e<;>first|exact q|exact gG.ent q b)
def K8(id:Nat)(Q:Exit->cY->aF->Prop):Exit->cY->aF->Prop
 |.exit id',E,H=>cond (Nat.beq id' id) (Q .normal E H) (Q (.exit id') E H)
 |e,E,H=>Q e E H
theorem aD{id}{c}(h:gG P G0 N c (K8 id Q) E H):gG P G0 N (.block id c) Q E H:=by
 intro G f a w j ro i;refine wpIn_block (wpIn_mono (h G f a w j _ i) ?_);rintro e a' w' ⟨g,d,q,s⟩;cases e<;>try exact⟨g,d,q,s⟩
 simp only[K8]at q;simp[Exit.inBlock]
 split
 ·rename_i b;subst b;rw[pI]at q;grind
 rename_i b;rw[jR b]at q;grind
abbrev MJ:PV:=.sat (·=.nilIface)
def cv:Value->Option AV
 |.int k n=>some (.pv (.int k n))
 |.bool b=>some (.pv (.bool b))
 |.string s=>some (.pv (.str s))
 |.pointer none=>some (.pv .nilp)
 |.slice none 0 0=>some (.pv (.sl []))
 |.nilFunc=>some (.pv .nilfn)
 |.map none=>some (.pv .nilm)
 |.nilIface=>some (.pv MJ)
 |_=>none
def aO(E:cY):Operand->Option AV
 |.tmp t=>E.get t
 |.const v=>cv v
 |.func f=>some (.pv (.fn f))
 |.global _=>none
theorem TE{w}{I}{ι}{v}{a}(h:cv v=some a):VRel w I ι H v a/\v.oneCell'=true:=by
 unfold cv at h
 split at h<;>cases h
 ·exact⟨.pv (.int _ _),Z⟩
 ·exact⟨.pv (.bool _),Z⟩
 ·exact⟨.pv (.str _),Z⟩
 ·exact⟨.pv .nilp,Z⟩
 ·exact⟨.pv .nilsl,Z⟩
 ·exact⟨.pv .nilfn,Z⟩
 ·exact⟨.pv .nilm,Z⟩
 exact⟨.pv (.sat Z Z),Z⟩
theorem aJ{w}{I}{ι}{a}{x}{v}(e:lJ w I ι H E a)(h:aO E x=some v):VRel w I ι H (a.eval x) v:=by
 cases x with
 |tmp t =>
  have ⟨c,b,d⟩:=e t v h
  simpa[Act.eval,b]using d
 |const c=>exact(TE h).1
 |func f=>simp[aO,Option.some.injEq]at h;subst h;exact .pv (.fn f)
 |global g=>cases h
theorem Na{c}{x y}{b}(n:aO E c=some (.pv (.bool b)))(m:b=true->gG P G0 N x Q E H)(o:b=false->gG P G0 N y Q E H):
  gG P G0 N (.cond c x y) Q E H:=by
 intro G g a w f ro d;have ⟨I,ι,hr,hst,l⟩:=f.rel;have j:=aJ l n;have i:=j.bool_inv;have k:=d.imp id λh=>(k_ _ _▸h).1;have p:=d.imp id λh=>(k_ _ _▸h).2;exact wpIn_cond_split i (λe=>m e G g a w f _ k) (λe=>o e G g a w f _ p)
theorem bF{c}{σ:Type}(f_:σ->cY×aF)(c_:σ->Prop)(f:σ->Nat)(d)(m:c_ d)(h:cL G0 E H (f_ d).1 (f_ d).2)
  (b:∀s,c_ s->gG P G0 N c (yX (λE' H'=>∃s',c_ s'/\f s'<f s/\cL G0 E' H' (f_ s').1 (f_ s').2) Q) (f_ s).1 (f_ s).2):gG P G0 N (.loop c) Q E H:=by
 intro G i a w p ro l;refine N7 (I:=λn a w=>∃s,c_ s/\f s=n/\St G N (f_ s).1 (f_ s).2 a w) _ ⟨d,m,Z,h G i N a w p⟩ ?_;rintro n a w ⟨s,r,rfl,g⟩;refine wpIn_mono (b s r G i a w g _ l) ?_;rintro e a' w' ⟨E',H',q,s'⟩;cases e<;>try exact⟨E',H',q,s'⟩
 have ⟨o,t,k,j⟩:=q;exact⟨f _,k,o,t,Z,j G i N _ _ s'⟩
def ju(P:Program)(N:Nat)(o:Oper)(E:cY)(H:aF)(R:AV->aF->Prop):Prop :=∀(a:Act) (w:World) (I:Nat->Prop) (ι:lQ),True->a.tmps.size=N->Rel I ι H w->lJ w I ι H E a->∀(K:Act->World->Prop) (Q:Exit->Act->World->Prop),
  (∀c w' I' ι' r H',R r H'->VRel w' I' ι' H' c r->Rel I' ι' H' w'->Step I ι H w I' ι' H' w'->K (a.put o.dst c) w')->o.wpW P a w K Q
def cN(P:Program)(N:Nat)(o:Oper)(E:cY)(H:aF)(v:AV)(H2:aF):Prop:=ju P N o E H (λr H'=>r=v/\H'=H2)
def nD(E:cY):Option Tmp->AV->cY
 |none,_=>E
 |some d,v=>(d,v)::E
def jB(N:Nat):Option Tmp->Bool
 |none=>true
 |some d=>Nat.blt d N
theorem lJ.put{w w'}{I g}{ι b}{H'}{a}{c}{r}{d}(k:Rel I ι H w)(l:Step I ι H w g b H' w')
  (m:lJ w I ι H E a) (n:VRel w' g b H' c r) (hd:jB a.tmps.size d=true):lJ w' g b H' (nD E d r) (a.put d c):=by
 cases d with
 |none=>exact λt v h=>let ⟨c,i,f⟩:=m t v h;⟨c,i,f.mono k l⟩
 |some d =>
  intro t v h;simp[nD]at h;have j:=by simpa[jB]using hd
  by_cases e:d=t
  ·subst e;rw[cY.get_cons_same]at h;cases h;exact⟨c,by simp[Act.put,j],n⟩
  rw[cY.get_cons_other _ _ e]at h;have ⟨o,i,f⟩:=m t v h;exact⟨o,by simp[Act.put,Array.getElem?_setIfInBounds_ne e,i],f.mono k l⟩
def AL(P:Program)(G0:aF)(N:Nat)(ops:Array Oper)(K:cY->aF->Prop)(l:List Oper)(E:cY)(H:aF):Prop :=∀G:Entry,G.H=G0->∀a w,St G N E H a w->∀ro,(ro=none\/l.all Oper.noDefer=true)->∀Q:Exit->Act->World->Prop,(∀E H a w,K E H->St G N E H a w->Q .normal a w)->wpListIn (RF ro) 0 P ops Q l a w
theorem qo{ops}{K}(h:K E H):AL P G0 N ops K [] E H:=λ_ _ a w b _ _ _ c=>c _ _ a w h b
theorem BG{I}{ι}{H}{w}(e:Rel I ι H w){D}{x}(hD:w.heap[D]?=some (.deferred x)):¬ NG ι H D:=by rintro⟨id,o,cap,d,hi⟩;rcases e.obj _ o d with⟨_,_,⟨b,cap',cs,c,a,_⟩|h1⟩|⟨_,b,es,c,a,_⟩|⟨_,b,bm,since,seen,last,c,a,_⟩|⟨_,b,x,c,a,_⟩|⟨_,b,x,y,c,a,_⟩;all_goals simp_all
theorem tU.step{g w w'}{I i}{ι b}{H H'}{a d}(n:Rel I ι H w)(m:Step I ι H w i b H' w')(h:tU a g w d):tU a g w' d:=by have ⟨k,l,j,f⟩:=h;refine⟨k,l,j,λD e=>⟨(f D e).1,?_⟩⟩;have c:=(f D e).2;rw[m.keep D (Array.getElem?_eq_some_iff.1 c).1 (BG n c)];exact c
theorem mA(a:Act)(d)(v):(a.put d v).defers=a.defers:=by cases d<;>rfl
theorem St.op{G}{a}{w}{o}{R}(d:St G N E H a w)(hd:jB N o.dst=true)(h:ju P N o E H R){K}{Q}
  (m:∀r H' a' w',R r H'->St G N (nD E o.dst r) H' a' w'->K a' w') {ro} (l:ro=none\/o.noDefer=true):o.wpIn (RF ro) 0 P a w K Q:=by
 refine Oper.wpW_in l ?_;have ⟨I,ι,i,e,j⟩:=d.rel;refine h a w I _ T_ d.size i j K Q ?_;intro c w' n f r H' p k g b;refine m r _ _ _ p ⟨?_,?_,n,f,g,e.trans b,lJ.put i b j k (by rw[d.size];exact hd)⟩
 ·rw[mA];exact d.defers.step i b
 have:=d.size;cases o.dst<;>simpa[Act.put]using this
theorem nJ{ro:Option Nat}{o}{rest}(h:ro=none\/(o::rest).all Oper.noDefer=true):(ro=none\/o.noDefer=true)/\(ro=none\/rest.all Oper.noDefer=true):=G_
theorem qn{ops}{K}{o}{rest}{R}(j:o.guard=none)(hd:jB N o.dst=true)(h:ju P N o E H R)
  (f:∀r H',R r H'->AL P G0 N ops K rest (nD E o.dst r) H'):AL P G0 N ops K (o::rest) E H:=by
 intro G e a w i ro b Q g;refine wpListIn_plain j λK' k=>?_;exact i.op hd h (λr H' a' w' d c=>k _ _ (f r _ d G e _ _ c _ (nJ b).2 Q g)) (nJ b).1
theorem qp{ops}{K}{o}{rest}{d:Tmp}{v}{H2}(a:o.guard=none)(hd:o.dst=some d)(c:Nat.blt d N=true)(h:cN P N o E H v H2)
  (e:AL P G0 N ops K rest ((d,v)::E) H2):AL P G0 N ops K (o::rest) E H :=
 qn a (by rw[hd];exact c) h λr H' ⟨b,f⟩=>by subst b f;rw[hd];exact e
theorem aE2{ops}{K}{o}{rest}{v}{H2}(d:o.guard=none)(hd:o.dst=none)(h:cN P N o E H v H2)
  (a:AL P G0 N ops K rest E H2):AL P G0 N ops K (o::rest) E H :=
 qn d (by rw[hd];rfl) h λr H' ⟨c,b⟩=>by subst c b;rw[hd];exact a
def jM(ops:List Oper)(j:Nat):Option Tmp:=(ops[j]?).bind (·.dst)
theorem C6{ops}{w}{I}{ι}{a}{j}{t}{b}(g:jM ops.toList j=some t)(e:E.get t=some (.pv (.bool b)))(f:lJ w I ι H E a):
  yielded ops a.tmps j=some b:=by
 have ⟨c,h,i⟩:=f t _ e;have d:=i.bool_inv;subst d;unfold yielded;have:=by simpa[jM]using g
 rw[this];simp[h]
theorem aDW{ops}{K}{o}{rest}{j}{d}{t}{b}{R}(v:o.guard=some (j,d))(p:jM ops.toList j=some t)
  (n:E.get t=some (.pv (.bool b))) (m:b=d) (hd:jB N o.dst=true) (h:ju P N o E H R) (u:∀r H',R r H'->AL P G0 N ops K rest (nD E o.dst r) H'):AL P G0 N ops K (o::rest) E H:=by
 intro G s a w i ro f Q k;have q:=C6 p n i.rel.choose_spec.choose_spec.2.2;unfold wpListIn;have e:Region.wanted o (yielded ops a.tmps)=true:=by simp[Region.wanted,v,q,m]
 simp[e,if_true];exact i.op hd h (λr H' a' w' l g=>u r _ l G s _ _ g _ (nJ f).2 Q k) (nJ f).1
def eg(want:Bool):AV->Bool
 |.pv (.bool b)=>b == !want
 |.tup []=>true
 |_=>false
theorem fq{ops}{w}{I}{ι}{a}{j}{t}(e:jM ops.toList j=some t)(b:E.get t=some (.tup []))(d:lJ w I ι H E a):yielded ops a.tmps j=none:=by
 have ⟨c,f,g⟩:=d t _ b;unfold yielded;have:=by simpa[jM]using e
 rw[this];cases g;simp[f]
theorem W0{ops}{o}{w}{I}{ι}{a}{j}{d}{t}{x}(h:o.guard=some (j,d))(i:jM ops.toList j=some t)(k:E.get t=some x)(g:eg d x=true)(l:lJ w I ι H E a):
  Region.wanted o (yielded ops a.tmps)=false:=by
 unfold eg at g
 split at g
 ·next b =>
  have f:=C6 i k l;have e:b=!d:=F_
  subst e;cases d<;>simp[Region.wanted,h,f]
 ·have f:=fq i k l;simp[Region.wanted,h,f]
 grind
theorem lJ.skip{w}{I}{ι}:VRel w I ι H undef (.tup []):=.tup Z (λi v a h=>by grind)
theorem wu{ops}{K}{o}{rest}{j}{b}{t}{x}(r:o.guard=some (j,b))(m:jM ops.toList j=some t)
  (l:E.get t=some x) (k:eg b x=true) (hd:jB N o.dst=true) (p:AL P G0 N ops K rest (nD E o.dst (.tup [])) H):AL P G0 N ops K (o::rest) E H:=by
 intro G n a w d ro f Q i;have ⟨I,q,g,e,h⟩:=d.rel;unfold wpListIn;have c:=W0 r m l k h;simp[c,Bool.false_eq_true,if_false];refine⟨λ_ _=>trivial,?_⟩;refine p G n _ w ⟨?_,?_,I,q,g,e,lJ.put g (Step.refl _ _ _ _) h lJ.skip (by rw[d.size];exact hd)⟩ _ (nJ f).2 Q i
 ·rw[mA];exact d.defers
 have:=d.size;cases o.dst<;>simpa[Act.put]using this
theorem No{ops}{K}{o}{rest}{j}{a}{t}{b}(f:o.guard=some (j,a))(d:jM ops.toList j=some t)
  (c:E.get t=some (.pv (.bool b))) (g:b=!a) (hd:jB N o.dst=true) (e:AL P G0 N ops K rest (nD E o.dst (.tup [])) H):AL P G0 N ops K (o::rest) E H :=
 wu f d c (by simp[eg,g]) hd e
theorem qS{ops}{K}{o}{rest}{j}{a}{t}(d:o.guard=some (j,a))(e:jM ops.toList j=some t)
  (b:E.get t=some (.tup [])) (hd:jB N o.dst=true) (c:AL P G0 N ops K rest (nD E o.dst (.tup [])) H):AL P G0 N ops K (o::rest) E H :=
 wu d e b Z hd c
theorem DL{id}{ops}(h:AL P G0 N ops (λE H=>Q .normal E H) ops.toList E H):gG P G0 N (.region id ops false) Q E H:=by intro G d a w b ro c;exact wpIn_region_list (h G d a w b _ c _ λE H a w q s=>⟨E,H,q,s⟩)
end control
end Go.Abs
end
section
namespace Go.Abs
section
variable{P:Program}{N:Nat}{o:Oper}{E:cY}{H:aF}
theorem cN.of_run{v}(h:∀(a) (w) (I) (ι),Rel I ι H w->lJ w I ι H E a->∃c,(execOp a.eval o).run P w=.ok (.value c) w/\VRel w I ι H c v):cN P N o E H v H:=by intro a w I ι _ _ d e K Q f;have ⟨c,b,g⟩:=h a w I _ d e;unfold Oper.wpW;rw[b];exact f c w I _ v H ⟨Z,Z⟩ g d (Step.refl _ _ _ _)
theorem gU{x}{v}(b:o.op=.move x)(c:aO E x=some v):cN P N o E H v H :=.of_run λa w I ι hr d=>⟨a.eval x,by simp[execOp,b],aJ d c⟩
theorem xT{x}{v}(b:o.op=.assign x)(c:aO E x=some v):cN P N o E H v H :=.of_run λa w I ι hr d=>⟨a.eval x,by simp[execOp,b],aJ d c⟩
theorem EN{c x y}{b}{v}(f:o.op=.pick c x y)(h:aO E c=some (.pv (.bool b)))(g:aO E (if b then x else y)=some v):cN P N o E H v H :=.of_run λa w I ι hr d=>by
  have e:=(aJ d h).bool_inv;refine⟨_,by simp[execOp,f,e,asBool];rfl,?_⟩;cases b<;>exact aJ d g
theorem aAF{c x y}{v}(a:o.op=.pick c x y)(b:aO E c=some (.pv (.bool true)))(hv:aO E x=some v):cN P N o E H v H :=EN a b F_
theorem aAG{c x y}{v}(a:o.op=.pick c x y)(b:aO E c=some (.pv (.bool false)))(hv:aO E y=some v):cN P N o E H v H :=EN a b F_
theorem Sw{t}{x}{b}(c:o.op=.unOp .not t x)(d:aO E x=some (.pv (.bool b))):cN P N o E H (.pv (.bool (!b))) H :=.of_run λa w I ι hr e=>by
  have f:=(aJ e d).bool_inv;exact⟨_,by simp[execOp,c,f,Op.unary],.pv (.bool _)⟩
theorem Sx{t}{x}{k}{n m}(c:o.op=.unOp .neg t x)(d:aO E x=some (.pv (.int k n)))(b:k.wrap (0 - n)=m):cN P N o E H (.pv (.int k m)) H :=.of_run λa w I ι hr e=>by
  have f:=(aJ e d).int_inv;subst b;exact⟨_,by simp[execOp,c,f,Op.unary,Op.intArith],.pv (.int _ _)⟩
section ints
variable{t t':TypeId}{x y:Operand}{k:IntKind}{n m r:Int}
theorem lU{c}{a:Act}{w}(d:o.op=.binOp c t x y t')(e:a.eval x=.int k n):(execOp a.eval o).run P w=((binOp c t (.int k n) (a.eval y)).run P w).andThen λv w=>.ok (.value v) w:=by simp[execOp,d,e,eqGuard_at_int,Sem.run_bind,Sem.run_pure,Result.andThen_ok]
theorem dB(d:o.op=.binOp .add t x y t')(f:aO E x=some (.pv (.int k n)))(e:aO E y=some (.pv (.int k m)))(g:k.wrap (n+m)=r):cN P N o E H (.pv (.int k r)) H :=.of_run λa w I ι _ c=>by
  subst g;exact⟨_,by rw[lU d (aJ c f).int_inv,(aJ c e).int_inv];simp[binOp,Op.intArith],.pv (.int _ _)⟩
theorem dM(d:o.op=.binOp .sub t x y t')(f:aO E x=some (.pv (.int k n)))(e:aO E y=some (.pv (.int k m)))(g:k.wrap (n - m)=r):cN P N o E H (.pv (.int k r)) H :=.of_run λa w I ι _ c=>by
  subst g;exact⟨_,by rw[lU d (aJ c f).int_inv,(aJ c e).int_inv];simp[binOp,Op.intArith],.pv (.int _ _)⟩
theorem oL(d:o.op=.binOp .mul t x y t')(f:aO E x=some (.pv (.int k n)))(e:aO E y=some (.pv (.int k m)))(g:k.wrap (n*m)=r):cN P N o E H (.pv (.int k r)) H :=.of_run λa w I ι _ c=>by
  subst g;exact⟨_,by rw[lU d (aJ c f).int_inv,(aJ c e).int_inv];simp[binOp,Op.intArith],.pv (.int _ _)⟩
theorem CU(d:o.op=.binOp .quo t x y t')(f:aO E x=some (.pv (.int k n)))(e:aO E y=some (.pv (.int k m)))(h:m≠0)(g:k.wrap (n.tdiv m)=r):cN P N o E H (.pv (.int k r)) H :=.of_run λa w I ι _ c=>by
  subst g;exact⟨_,by rw[lU d (aJ c f).int_inv,(aJ c e).int_inv];simp[binOp,Op.intDiv,h],.pv (.int _ _)⟩
theorem zM(d:o.op=.binOp .rem t x y t')(f:aO E x=some (.pv (.int k n)))(e:aO E y=some (.pv (.int k m)))(h:m≠0)(g:n.tmod m=r):cN P N o E H (.pv (.int k r)) H :=.of_run λa w I ι _ c=>by
  subst g;exact⟨_,by rw[lU d (aJ c f).int_inv,(aJ c e).int_inv];simp[binOp,Op.intDiv,h],.pv (.int _ _)⟩
theorem pE{c}(h:o.op=.binOp c t x y t')(d:c=.and\/c=.or\/c=.xor\/c=.andNot)(f:aO E x=some (.pv (.int k n)))(i:aO E y=some (.pv (.int k m)))(g:bits c k n m=r):cN P N o E H (.pv (.int k r)) H :=.of_run λa w I ι _ e=>by
  subst g;refine⟨.int k _,?_,.pv (.int _ _)⟩;rw[lU h (aJ e f).int_inv,(aJ e i).int_inv];rcases d with rfl|rfl|rfl|rfl<;>simp[binOp,intBits_and,intBits_or,intBits_xor,intBits_andNot]
theorem F2{e}(f:o.op=.binOp .shr t x y t')(g:aO E x=some (.pv (.int k n)))(h:aO E y=some (.pv (.int e m)))(j:0<=m)(d:m<=k.bits)(i:n / 2 ^ m.toNat=r):cN P N o E H (.pv (.int k r)) H :=.of_run λa w I ι _ c=>by
  subst i;refine⟨.int k _,?_,.pv (.int _ _)⟩;rw[lU f (aJ c g).int_inv,(aJ c h).int_inv];simp[binOp_shr,shift_shr k _ n m j d,Sem.run_pure,Result.andThen_ok]
theorem O8{e}(f:o.op=.binOp .shl t x y t')(g:aO E x=some (.pv (.int k n)))(h:aO E y=some (.pv (.int e m)))(j:0<=m)(d:m<=k.bits)(i:k.wrap (n*2 ^ m.toNat)=r):cN P N o E H (.pv (.int k r)) H :=.of_run λa w I ι _ c=>by
  subst i;refine⟨.int k _,?_,.pv (.int _ _)⟩;rw[lU f (aJ c g).int_inv,(aJ c h).int_inv];simp[binOp_shl,shift_shl k _ n m j d,Sem.run_pure,Result.andThen_ok]
theorem iC(d:o.op=.binOp .lss t x y t')(f:aO E x=some (.pv (.int k n)))(e:aO E y=some (.pv (.int k m))):cN P N o E H (.pv (.bool (decide (n<m)))) H :=.of_run λa w I ι _ c=>⟨_,by rw[lU d (aJ c f).int_inv,(aJ c e).int_inv];simp[binOp,Op.intCmp],.pv (.bool _)⟩
theorem oM(d:o.op=.binOp .leq t x y t')(f:aO E x=some (.pv (.int k n)))(e:aO E y=some (.pv (.int k m))):cN P N o E H (.pv (.bool (decide (n<=m)))) H :=.of_run λa w I ι _ c=>⟨_,by rw[lU d (aJ c f).int_inv,(aJ c e).int_inv];simp[binOp,Op.intCmp],.pv (.bool _)⟩
theorem J5(d:o.op=.binOp .gtr t x y t')(f:aO E x=some (.pv (.int k n)))(e:aO E y=some (.pv (.int k m))):cN P N o E H (.pv (.bool (decide (m<n)))) H :=.of_run λa w I ι _ c=>⟨_,by rw[lU d (aJ c f).int_inv,(aJ c e).int_inv];simp[binOp,Op.intCmp],.pv (.bool _)⟩
theorem jL(d:o.op=.binOp .geq t x y t')(f:aO E x=some (.pv (.int k n)))(e:aO E y=some (.pv (.int k m))):cN P N o E H (.pv (.bool (decide (m<=n)))) H :=.of_run λa w I ι _ c=>⟨_,by rw[lU d (aJ c f).int_inv,(aJ c e).int_inv];simp[binOp,Op.intCmp],.pv (.bool _)⟩
theorem nK(d:o.op=.binOp .eql t x y t')(f:aO E x=some (.pv (.int k n)))(e:aO E y=some (.pv (.int k m))):cN P N o E H (.pv (.bool (decide (n=m)))) H :=.of_run λa w I ι _ c=>⟨.bool _,by rw[lU d (aJ c f).int_inv,(aJ c e).int_inv];simp[binOp,Op.intCmp];all_goals rfl,.pv (.bool _)⟩
theorem J2(d:o.op=.binOp .neq t x y t')(f:aO E x=some (.pv (.int k n)))(e:aO E y=some (.pv (.int k m))):cN P N o E H (.pv (.bool (!decide (n=m)))) H :=.of_run λa w I ι _ c=>⟨.bool _,by rw[lU d (aJ c f).int_inv,(aJ c e).int_inv];simp[binOp,Op.intCmp];all_goals rfl,.pv (.bool _)⟩
end ints
section strings
variable{t t':TypeId}{x y:Operand}{s u r:B_}
theorem BA{c}{a:Act}{w}(d:o.op=.binOp c t x y t')(e:a.eval x=.string s)(f:a.eval y=.string u):(execOp a.eval o).run P w=((Op.stringOp c s u).run P w).andThen λv w=>.ok (.value v) w:=by simp only[execOp,d,e,f,eqGuard_at_string,Sem.run_bind,Sem.run_pure,Result.andThen_ok];cases c<;>simp[binOp]
theorem BL(s u:B_):(s.toList == u.toList)=decide (s=u):=by
 rw[<-beq_toListBytes];by_cases h:s=u
 ·subst h;have:(s == s)=true:=by rw[beq_toListBytes];simp
  simp[this]
 have:(s == u)=false:=by
  rw[beq_toListBytes,ByteArray.toList_eq,ByteArray.toList_eq];cases e:(s.data.toList == u.data.toList)with
  |false=>rfl
  |true =>
   exact absurd (by cases s;simp_all) h
 simp[this,h]
theorem J0(d:o.op=.binOp .eql t x y t')(e:aO E x=some (.pv (.str s)))(f:aO E y=some (.pv (.str u))):cN P N o E H (.pv (.bool (decide (s=u)))) H :=.of_run λa w I ι _ c=>⟨_,by rw[BA d (aJ c e).str_inv (aJ c f).str_inv];simp[Op.stringOp,BL,Sem.run_pure,Result.andThen_ok],.pv (.bool _)⟩
theorem Jd(d:o.op=.binOp .neq t x y t')(e:aO E x=some (.pv (.str s)))(f:aO E y=some (.pv (.str u))):cN P N o E H (.pv (.bool (!decide (s=u)))) H :=.of_run λa w I ι _ c=>⟨_,by rw[BA d (aJ c e).str_inv (aJ c f).str_inv];simp[Op.stringOp,BL,Sem.run_pure,Result.andThen_ok],.pv (.bool _)⟩
def lA(s u:B_):Bool:=Op.bytesLess s.toList u.toList
theorem Je(d:o.op=.binOp .lss t x y t')(e:aO E x=some (.pv (.str s)))(f:aO E y=some (.pv (.str u))):cN P N o E H (.pv (.bool (lA s u))) H :=.of_run λa w I ι _ c=>⟨_,by rw[BA d (aJ c e).str_inv (aJ c f).str_inv];rfl,.pv (.bool _)⟩
theorem Jf(d:o.op=.binOp .leq t x y t')(e:aO E x=some (.pv (.str s)))(f:aO E y=some (.pv (.str u))):cN P N o E H (.pv (.bool (lA s u||decide (s=u)))) H :=.of_run λa w I ι _ c=>⟨_,by rw[BA d (aJ c e).str_inv (aJ c f).str_inv];simp[Op.stringOp,BL,Sem.run_pure,Result.andThen_ok];rfl,.pv (.bool _)⟩
theorem JZ(d:o.op=.binOp .geq t x y t')(e:aO E x=some (.pv (.str s)))(f:aO E y=some (.pv (.str u))):cN P N o E H (.pv (.bool (!(lA s u)))) H :=.of_run λa w I ι _ c=>⟨_,by rw[BA d (aJ c e).str_inv (aJ c f).str_inv];rfl,.pv (.bool _)⟩
theorem fC(d:o.op=.binOp .add t x y t')(e:aO E x=some (.pv (.str s)))(g:aO E y=some (.pv (.str u)))(hs:s.size+u.size<=9223372036854775807)(f:s++u=r):cN P N o E H (.pv (.str r)) H :=.of_run λa w I ι _ c=>⟨.string r,by
  subst f;rw[BA d (aJ c e).str_inv (aJ c g).str_inv];have:¬ (((s.size+u.size:Nat)) > IntKind.i64.max):=by simp[IntKind.max_i64];omega
  simp only[Op.stringOp,this,if_false,Sem.run_pure,Result.andThen_ok],.pv (.str _)⟩
end strings
section eqs
variable{t e:TypeId}{w:World}
theorem JL{b c}(a:P.underlying t=some .bool):(binOp .eql t (.bool b) (.bool c)).run P w=.ok (.bool (b == c)) w:=by have h:=run_equalIn_bool w 9999 t b c a;simp[binOp];simp[Op.equal,Op.maxDepth,Sem.run_bind,h,Result.andThen_ok,Sem.run_pure]
theorem JK{b c}(a:P.underlying t=some .bool):(binOp .neq t (.bool b) (.bool c)).run P w=.ok (.bool (!(b == c))) w:=by have h:=run_equalIn_bool w 9999 t b c a;simp[binOp];simp[Op.equal,Op.maxDepth,Sem.run_bind,h,Result.andThen_ok,Sem.run_pure]
theorem EG(d){p}(a:P.underlying t=some (.pointer e)):(Op.equalIn (d+1) t (.pointer p) (.pointer none)).run P w=.ok p.isNone w:=by cases p<;>simp[Op.equalIn,run_underlying a]
theorem QV{p}(b:P.underlying t=some (.pointer e)):(binOp .eql t (.pointer p) (.pointer none)).run P w=.ok (.bool p.isNone) w:=by have h:(Op.equalIn _ t _ _).run P w=.ok p.isNone w:=EG 9999 b;simp[binOp];simp[Op.equal,Op.maxDepth,Sem.run_bind,h,Result.andThen_ok,Sem.run_pure]
theorem QU{p}(b:P.underlying t=some (.pointer e)):(binOp .neq t (.pointer p) (.pointer none)).run P w=.ok (.bool (!p.isNone)) w:=by have h:(Op.equalIn _ t _ _).run P w=.ok p.isNone w:=EG 9999 b;simp[binOp];simp[Op.equal,Op.maxDepth,Sem.run_bind,h,Result.andThen_ok,Sem.run_pure]
end eqs
section bools
variable{t t':TypeId}{x y:Operand}{b c:Bool}
theorem RY(h:o.op=.binOp .eql t x y t')(g:P.underlying t=some .bool)(i:aO E x=some (.pv (.bool b)))(j:aO E y=some (.pv (.bool c))):cN P N o E H (.pv (.bool (b == c))) H :=.of_run λa w I ι _ e=>⟨.bool _,by
  have f:=(aJ e i).bool_inv;have k:=(aJ e j).bool_inv;simp[execOp,h,f,k,eqGuard_at_bool,Sem.run_bind,Sem.run_pure,Result.andThen_ok,JL g,JK _],.pv (.bool _)⟩
theorem Jh(h:o.op=.binOp .neq t x y t')(g:P.underlying t=some .bool)(i:aO E x=some (.pv (.bool b)))(j:aO E y=some (.pv (.bool c))):cN P N o E H (.pv (.bool (!(b == c)))) H :=.of_run λa w I ι _ e=>⟨.bool _,by
  have f:=(aJ e i).bool_inv;have k:=(aJ e j).bool_inv;simp[execOp,h,f,k,eqGuard_at_bool,Sem.run_bind,Sem.run_pure,Result.andThen_ok,JL _,JK g],.pv (.bool _)⟩
end bools
section ptrs
variable{t t' e:TypeId}{x y:Operand}{id g i k:Nat}{ob:Ob}
theorem pN{w}{I}{ι}{v}(h:VRel w I ι H v (.ref id g i k))(ho:H.get id=some ob)(hg:ob.g=g):∃b cap,ι id=some (b,cap)/\v=.pointer (some ⟨b,i*ob.sz+k,none⟩):=by
 cases h with
 |ref o' h1 h2 _ h3 =>
  simp_all
theorem QW{w}{I}{ι}{v}{id g i k}{ob}(h:VRel w I ι H v (.ref id g i k))(ho:H.get id=some ob)(hg:ob.g=g):0<ob.sz:=by
 cases h with
 |ref o' h1 h2 _ h3 =>
  simp_all
theorem NN(j:o.op=.binOp .eql t x y t')(h:P.underlying t=some (.pointer e))(l:aO E x=some (.ref id g i k))(f:H.get id=some ob)(d:ob.g=g)(m:aO E y=some (.pv .nilp)):cN P N o E H (.pv (.bool false)) H :=.of_run λa w I ι _ c=>⟨.bool _,by
  have ⟨b,cap,_,p⟩:=pN (aJ c l) f d;have n:=(aJ c m).nilp_inv;simp only[execOp,j,p,n,eqGuard_at_pointer,Sem.run_bind,Sem.run_pure,Result.andThen_ok,QV h,QU _];rfl,.pv (.bool _)⟩
theorem NO(f:o.op=.binOp .eql t x y t')(m:P.underlying t=some (.pointer e))(h:aO E x=some (.pv .nilp))(j:aO E y=some (.pv .nilp)):cN P N o E H (.pv (.bool true)) H :=.of_run λa w I ι _ c=>⟨.bool _,by
  have d:=(aJ c h).nilp_inv;have l:=(aJ c j).nilp_inv;simp only[execOp,f,d,l,eqGuard_at_pointer,Sem.run_bind,Sem.run_pure,Result.andThen_ok,QV m,QU _];rfl,.pv (.bool _)⟩
theorem dN(j:o.op=.nilCheck x)(l:aO E x=some (.ref id g i k))(f:H.get id=some ob)(d:ob.g=g):cN P N o E H (.ref id g i k) H :=.of_run λa w I ι _ m=>by
  have c:=aJ m l;have ⟨b,cap,_,h⟩:=pN c f d;exact⟨_,by simp[execOp,j,h],c⟩
end ptrs
theorem vB{x}{d}{n}{v}(g:o.op=.extract x n)(j:aO E x=some (.tup d))(m:d[n]?=some v):cN P N o E H v H :=.of_run λa w I ι _ k=>by
  have h:=aJ k j;generalize f:a.eval x=c at h;cases h with
  | @tup e _ hl i =>
   have l:n<e.size:=by grind
   have b:=Array.getElem?_eq_getElem l;exact⟨e[n],by simp[execOp,g,f];simp[Instr.extract,b],i n _ v b m⟩
section calls
variable{x y:Operand}{T T2 e:TypeId}
theorem NP{s}(f:o.op=.call {callee:=.builtin .len,args:=#[x],argTypes:=#[T]})(d:P.underlying T=some .string)(g:aO E x=some (.pv (.str s))):cN P N o E H (.pv (.int .i64 s.size)) H :=.of_run λa w I ι _ b=>⟨.int _ _,by
  have c:=(aJ b g).str_inv;simp[execOp,f,resolve,invoke,builtin,c,Builtin.len_,run_underlying d,goInt],.pv (.int _ _)⟩
theorem Fv{w}{I}{ι}{v}{rows}(h:VRel w I ι H v (.pv (.sl rows))):∃b cap,v=.slice b rows.length cap:=by
 cases h with|pv h =>
 cases h with
 |nilsl=>simp_all
 |empsl a=>simp_all
 |sl b off cap sz _ cs h1 h2 h3 h4 h5 h6=>simp_all
theorem kW{rows}(g:o.op=.call {callee:=.builtin .len,args:=#[x],argTypes:=#[T]})(f:P.underlying T=some (.slice e))(h:aO E x=some (.pv (.sl rows))):cN P N o E H (.pv (.int .i64 rows.length)) H :=.of_run λa w I ι _ c=>⟨.int _ _,by
  have ⟨b,cap,d⟩:=Fv (aJ c h);simp[execOp,g,resolve,invoke,builtin,d,Builtin.len_,run_underlying f,goInt],.pv (.int _ _)⟩
theorem jK{w}{I}{ι}{v}{id g off len}{ob}(h:VRel w I ι H v (.osl id g off len))(hH:H.get id=some ob)(hg:ob.g=g):
  off+len<=ob.rows.length/\((∃b cap a,ι id=some (b,cap)/\v=.slice (some ⟨b,a,none⟩) len (cap - off)/\(off<cap\/off=0->a=off*ob.sz))\/(ι id=none/\v=.slice none 0 0/\off=0/\len=0)):=by
 cases h with
 |osl o' h1 h2 _ h3 =>
  simp_all
theorem qA{w}{I}{ι}{v}{id g off len}{ob}(h:VRel w I ι H v (.osl id g off len))(hH:H.get id=some ob)(hg:ob.g=g):0<ob.sz:=by
 cases h with
 |osl o' h1 h2 _ h3 =>
  simp_all
theorem dS{id g off len}{ob}(d:o.op=.call {callee:=.builtin .len,args:=#[x],argTypes:=#[T]})(f:P.underlying T=some (.slice e))(j:aO E x=some (.osl id g off len))(h:H.get id=some ob)(i:ob.g=g):cN P N o E H (.pv (.int .i64 len)) H :=.of_run λa w I ι _ l=>⟨.int _ _,by
  obtain ⟨_,⟨b,cap,oo,_,c,_⟩|⟨_,c,_,k⟩⟩:=jK (aJ l j) h i
  ·simp[execOp,d,resolve,invoke,builtin,c,Builtin.len_,run_underlying f,goInt]
  simp[execOp,d,resolve,invoke,builtin,c,k,Builtin.len_,run_underlying f,goInt],.pv (.int _ _)⟩
theorem CV{k}{n m r}(f:o.op=.call {callee:=.builtin .min,args:=#[x,y],argTypes:=#[T,T2]})(g:aO E x=some (.pv (.int k n)))(h:aO E y=some (.pv (.int k m)))(i:min n m=r):cN P N o E H (.pv (.int k r)) H :=.of_run λa w I ι _ c=>⟨.int k r,by
  have d:=(aJ c g).int_inv;have j:=(aJ c h).int_inv;have l:(if m<n then m else n)=min n m:=X
  simp[execOp,f,resolve,invoke,builtin,d,j,Builtin.min_,Builtin.min2,l,i],.pv (.int _ _)⟩
theorem Sy{k}{n m r}(g:o.op=.call {callee:=.builtin .max,args:=#[x,y],argTypes:=#[T,T2]})(h:aO E x=some (.pv (.int k n)))(i:aO E y=some (.pv (.int k m)))(j:max n m=r):cN P N o E H (.pv (.int k r)) H :=.of_run λa w I ι _ c=>⟨.int k r,by
  have p:=(aJ c h).int_inv;have l:=(aJ c i).int_inv;have d:(if n<m then m else n)=max n m:=X
  have f:=d;simp[execOp,g,resolve,invoke,builtin,p,l,Builtin.max_,Builtin.max2,d,f,j],.pv (.int _ _)⟩
end calls
theorem eE{f_ T}{x}{k b}{n r}{d}(f:o.op=.convert f_ T x)(hS:P.underlying f_=some d)(g:P.underlying T=some (.int b))(h:aO E x=some (.pv (.int k n)))(i:b.wrap n=r):cN P N o E H (.pv (.int b r)) H :=.of_run λa w I ι _ c=>⟨.int _ r,by
  have e:=(aJ c h).int_inv;subst i;simp[execOp,f,e,convert,run_underlying hS,run_underlying g,Conv.intToInt],.pv (.int _ _)⟩
theorem gW{f:FuncId}{c:Array Operand}{d:List AV}(p:o.op=.makeFunc (.func f) #[] c)(e:c.toList.mapM (aO E)=some d):cN P N o E H (.clo f d) H :=.of_run λa w I r _ t=>by
  refine⟨.func (.func f) #[] (c.map a.eval),by simp[execOp,p,Instr.makeFunc],?_⟩;have j:∀(l:List Operand) (d:List AV),l.mapM (aO E)=some d->l.length=d.length/\∀(i:Nat) (v:Value) (b:AV),(l.map a.eval)[i]?=some v->d[i]?=some b->VRel w I r H v b:=by
   intro l
   induction l with
   |nil=>simp_all
   |cons x l q =>
    intro d h;simp only[mapM_cons,Option.pure_def,Option.bind_eq_bind,Option.bind_eq_some_iff,Option.some.injEq]at h;obtain ⟨v0,s,k,m,rfl⟩:=h;have ⟨l1,n⟩:=q k m;refine⟨G_,?_⟩;intro i v b e g;cases i with
    |zero=>simp at e g;subst e g;exact aJ t s
    |succ i=>simp at e g;exact n i v b F_ g
  have ⟨m,u⟩:=j c.toList d e;exact .clo (by simpa using m) (λi v b e g=>u i v b (by simpa using e) g)
end
end Go.Abs
end
namespace Go.Abs
variable{P:Program}{T f_ e ty t:TypeId}{n off m m2 sz id g len cap l h b j i k d N bytes:Nat}{ob:Ob}{w w':World}{I:Nat->Prop}{rows ps:List (List PV)}{hi:Option Operand}{r r' s v0:AV}{v c z:Value}{ι:lQ}{H H2 H' G0:aF}{cells args:List AV}{a:Act}{E E':cY}{G:Entry}{f:FuncId}{Q:Exit->cY->aF->Prop}{aps:List (Nat×AV)}{α:Type}{ops rest:List Oper}
section
def K7(w:World)(I:Nat->Prop)(ι:lQ)(H:aF)(v:Value)(xs:List AV):Prop :=∃b o,v=.pointer (some ⟨b,o,none⟩)/\∀(j:Nat) (a:AV),xs[j]?=some a->∃c,w.cell? ⟨b,o+j,none⟩=some c/\c.oneCell'=true/\VRel w I ι H c a
section
theorem FY{id g i k}{ob}{r}(p:Rel I ι H w)(h:VRel w I ι H v (.ref id g i k))(e:H.get id=some ob)(l:ob.g=g)(hi:ob.rows[i]?=some r):
  K7 w I ι H v (r.drop k):=by
 have ⟨b,cap,m,u⟩:=pN h e l;obtain ⟨_,_,⟨b',cap',cs,d,q,e3,e4,e5,e6,t⟩|⟨d,_⟩⟩:=(p.obj _ _ e).cells (QW h e l)
 ·rw[m]at d;cases d;refine⟨b,i*ob.sz+k,u,λj a f=>?_⟩;rw[getElem?_drop]at f;have ⟨c,o,n,s⟩:=t i r hi _ a f;refine⟨c,?_,n,s⟩;rw[cell_of_row w b _ _ _ _ q,Nat.add_assoc];exact o
 rw[m]at d;cases d
theorem WB{rows}{i k}{r}(h:VRel w I ι H v (.pad rows i k))(hi:rows[i]?=some r):K7 w I ι H v ((r.drop k).map .pv):=by
 cases h with
 | pad b c cap l _ hsz hlen cs hb hc g =>
  refine⟨b,c+i*l+k,Z,λj a d=>?_⟩;rw[r7,getElem?_drop]at d;cases e:r[k+j]? with
  |none=>simp_all
  |some p =>
   rw[e]at d;cases d;have f:=g i r hi _ p e;exact⟨_,G_,f.oneCell,.pv f⟩
theorem Jz{P}{T}{xs}{a}(k:K7 w I ι H v xs)(j:∀w,(isAgg T).run P w=.ok false w)(h:xs[0]?=some a):
  ∃c,(Instr.loadAt T v).run P w=.ok c w/\VRel w I ι H c a:=by
 obtain ⟨b,o,rfl,i⟩:=k;obtain ⟨c,f,_,g⟩:=i 0 a h;refine⟨c,?_,g⟩;simp[Nat.add_zero]at f;simp[Instr.loadAt,Instr.sureAddr,loadVar,j,f]
theorem Jy{xs cs:List AV}(E:K7 w I ι H v xs)(p:∀w,(isAgg T).run P w=.ok true w)(y:∀w,(sizeOf T).run P w=.ok n w)(hcs:xs.take n=cs)(z:cs.length=n):
  ∃c,(Instr.loadAt T v).run P w=.ok c w/\VRel w I ι H c (.agg cs):=by
 obtain ⟨b,o,rfl,B⟩:=E;have t:∀j,j<n->∃c,w.cell? ⟨b,o+j,none⟩=some c/\c.oneCell'=true/\∀a,cs[j]?=some a->VRel w I ι H c a:=by
  intro j r;have m:j<cs.length:=by omega
  have e:xs[j]?=some cs[j]:=by
   have x:cs[j]?=some cs[j]:=m_ m;have q:(xs.take n)[j]?=some cs[j]:=F_
   rw[getElem?_take,b7 r]at q;exact q
  have ⟨c,x,q,A⟩:=B j _ e;refine⟨c,x,q,λa p=>?_⟩;rw[m_ m]at p;cases p;exact A
 let f:Nat->Value:=λj=>if h:j<n then(t j h).choose else undef
 have d_:∀j (h:j<n),w.cell? ⟨b,o+j,none⟩=some (f j)/\(f j).oneCell'=true/\∀a,cs[j]?=some a->VRel w I ι H (f j) a:=by
  grind
 let l:List Value:=(List.range n).map f
 have k:l.length=n:=by simp[l]
 have s:∀j u,l[j]?=some u->j<n/\u=f j:=by
  grind
 have g:(loadCells ⟨b,o,none⟩ n).run P w=.ok l.toArray w:=by
  have:=run_loadCells_list (P:=P) w ⟨b,o,none⟩ l (λj u D=>by
   obtain ⟨r,rfl⟩:=s j u D;rw[Addr.add_lit];exact(d_ j r).1)
  rwa [k]at this
 refine⟨.agg l.toArray,by simp[Instr.loadAt,Instr.sureAddr,loadVar,p,y,g],.agg (by simp[k,z]) ?_ ?_⟩;all_goals grind
end
section
variable{o:Oper}{x y:Operand}
theorem sS{xs:List AV}{v}(e:o.op=.load T x)
  (b:∀(a) (w) (I) (ι),Rel I ι H w->lJ w I ι H E a->∃c,(Instr.loadAt T (a.eval x)).run P w=.ok c w/\VRel w I ι H c v):cN P N o E H v H :=
 .of_run λa w I ι f g=>by
  have ⟨c,d,h⟩:=b a w I _ f g;exact⟨c,by simp[execOp,e,d],h⟩
theorem aX{id g i k}{ob}{r}{v}(d:o.op=.load T x)(b:∀w,(isAgg T).run P w=.ok false w)(e:aO E x=some (.ref id g i k))(c:H.get id=some ob)(j:ob.g=g)
  (hi:ob.rows[i]?=some r) (hk:r[k]?=some v):cN P N o E H v H :=
 sS (xs:=r.drop k) d λa w I ι f h=>Jz (FY f (aJ h e) c j hi) b F_
theorem dV{rows}{i k}{r}{p}(c:o.op=.load T x)(b:∀w,(isAgg T).run P w=.ok false w)(d:aO E x=some (.pad rows i k))(hi:rows[i]?=some r)(hk:r[k]?=some p):cN P N o E H (.pv p) H :=sS (xs:=(r.drop k).map .pv) c λa w I ι hr e=>Jz (WB (aJ e d) hi) b G_
theorem aW{n id g i k}{ob}{r cs}(h:o.op=.load T x)(c:∀w,(isAgg T).run P w=.ok true w)(p:∀w,(sizeOf T).run P w=.ok n w)(j:aO E x=some (.ref id g i k))(d:H.get id=some ob)(q:ob.g=g)
  (hi:ob.rows[i]?=some r) (e:(r.drop k).take n=cs) (f:cs.length=n):cN P N o E H (.agg cs) H :=
 sS (xs:=r.drop k) h λa w I ι l m=>Jy (FY l (aJ m j) d q hi) c p e f
theorem fA{n}{rows}{i k}{r}{cs}(f:o.op=.load T x)(d:∀w,(isAgg T).run P w=.ok true w)(l:∀w,(sizeOf T).run P w=.ok n w)(g:aO E x=some (.pad rows i k))(hi:rows[i]?=some r)
  (j:((r.drop k).map AV.pv).take n=cs) (e:cs.length=n):cN P N o E H (.agg cs) H :=
 sS (xs:=(r.drop k).map .pv) f λa w I ι hr h=>Jy (WB (aJ h g) hi) d l j e
def cF(P:Program)(f_ f off:Nat):Prop:=∃fs fd n,P.underlying f_=some (.struct fs)/\fs[f]?=some fd/\fd.offset=off/\∀w,(sizeOf fd.type).run P w=.ok (n+1) w
theorem nY{off:TypeId}{id g i k k2 f}{ob}(m:o.op=.fieldAddr f_ x f)(s:cF P f_ f off)
  (u:aO E x=some (.ref id g i k)) (e:H.get id=some ob) (l:ob.g=g) (hk:k+off=k2):cN P N o E H (.ref id g i k2) H :=
 .of_run λa w I ι hr v=>by
  have ⟨fs,fd,n,r,z,hoff,p⟩:=s;have h:=aJ v u;generalize q:a.eval x=c at h;obtain ⟨b,j,t,rfl⟩:=pN h e l;refine⟨.pointer _,?_,.ref _ e X Z λ_=>⟨QW h e l,b,j,t,Z⟩⟩;simp[execOp,m,q];simp[Instr.fieldAt,run_underlying r,z,Instr.sureAddr,fieldPlace,p,Addr.add_lit,Nat.add_assoc]
theorem UN{off:TypeId}{rows}{i k k2 f}(p:o.op=.fieldAddr f_ x f)(u:cF P f_ f off)
  (t:aO E x=some (.pad rows i k)) (hk:k+off=k2):cN P N o E H (.pad rows i k2) H :=
 .of_run λa w I ι hr v=>by
  have ⟨fs,fd,n,s,z,hoff,m⟩:=u;have h:=aJ v t;generalize q:a.eval x=c at h;cases h with
  |pad b off cap sz A g e cs r j l =>
   refine⟨.pointer _,?_,.pad b _ _ _ A g e _ r j l⟩;simp[execOp,p,q];simp[Instr.fieldAt,run_underlying s,z,Instr.sureAddr,fieldPlace,m,Addr.add_lit,Nat.add_assoc]
theorem UK{e}{rows}{r}{o_}{n}{m sz}(K:o.op=.indexAddr T x y)(F:P.underlying T=some (.slice e))(e_:∀w,(sizeOf e).run P w=.ok sz w)
  (G:aO E x=some (.pv (.sl rows))) (d_:aO E y=some (.pv (.int o_ n))) (c_:0<=n) (A:n.toNat=m) (hi:rows[m]?=some r) (hl:r.length=sz):cN P N o E H (.pad rows m 0) H :=
 .of_run λa w I ι hr u=>by
  have h:=aJ u G;have B:=(aJ u d_).int_inv;have l:=(m9.1 hi).1;have hmem:=m8 hi;generalize z:a.eval x=c at h;have L:=h.pv_inv;cases L with
  |nilsl=>simp at l
  |empsl a=>simp at l
  |sl b s q f _ v t g d i j k =>
   have p:f=sz:=F_
   subst p;refine⟨.pointer _,?_,.pad b s q f (.sl b s q f _ v t g d i j k) g d v t j k⟩;simp[execOp,K,z,B];have D:n<(rows.length):=X
   simp[Instr.indexAt,run_underlying F,asIntOf,c_,D,e_,A,Addr.add_lit]
theorem UL{e}{r}{n:Int}(v:o.op=.indexAddr T x y)(d_:P.underlying T=some (.slice e))(s:∀w,(sizeOf e).run P w=.ok sz w)
  (F:aO E x=some (.osl id g off len)) (d:H.get id=some ob) (l:ob.g=g) (i:ob.sz=sz) (G:aO E y=some (.pv (.int r n))) (K:0<=n) (u:n.toNat=m) (hi:m<len) (j:off+m=m2):cN P N o E H (.ref id g m2 0) H :=
 .of_run λa w I ι c_ p=>by
  have h:=aJ p F;have z:=(aJ p G).int_inv;obtain ⟨h1,⟨b,f,oo,q,D,A⟩|⟨_,_,_,q⟩⟩:=jK h d l
  ·have c:off<f:=by
    obtain ⟨_,_,⟨b',cap',cs,B,e2,e3,e4,e5,e6,e7⟩|⟨B,_⟩⟩:=(c_.obj id ob d).cells (qA h d l);all_goals grind
   have k:=A (.inl c);subst k i j;refine⟨.pointer _,?_,.ref ob d X Z λ_=>⟨qA h d l,b,f,q,Z⟩⟩;simp only[execOp,v,D,z];have t:n<len:=X
   simp[Instr.indexAt,run_underlying d_,asIntOf,K,t,s,u,Addr.add_lit,Nat.add_mul]
  omega
theorem eO{e}{q}{n}{m sz d id g i k k2}{ob}(r:o.op=.indexAddr T x y)(A:P.underlying T=some (.array d e))(F:∀w,(sizeOf e).run P w=.ok sz w)
  (u:aO E x=some (.ref id g i k)) (j:H.get id=some ob) (p:ob.g=g) (d_:aO E y=some (.pv (.int q n))) (D:0<=n) (t:n.toNat=m) (hi:m<d) (hk:k+m*sz=k2):cN P N o E H (.ref id g i k2) H :=
 .of_run λa w I ι hr l=>by
  have h:=aJ l u;have v:=(aJ l d_).int_inv;have ⟨b,f,z,B⟩:=pN h j p;refine⟨.pointer _,?_,.ref _ j X Z λ_=>⟨QW h j p,b,f,z,Z⟩⟩;simp[execOp,r,B,v];have s:n<d:=X
  simp[Instr.indexAt,run_underlying A,Instr.sureAddr,asIntOf,D,s,F,t,Addr.add_lit,Nat.add_assoc]
def aY(s:B_)(m:Nat):Int:=((s.data.toList[m]?).getD 0).toNat
theorem cI{q}{n}{m}{s}{r}(e:o.op=.index T x y)(f:P.underlying T=some .string)(g:aO E x=some (.pv (.str s)))(h:aO E y=some (.pv (.int q n)))(k:0<=n)(d:n.toNat=m)(hi:m<s.size)(i:aY s m=r):
  cN P N o E H (.pv (.int .u8 r)) H :=
 .of_run λa w I ι _ c=>⟨.int _ r,by
  have l:=(aJ c g).str_inv;have j:=(aJ c h).int_inv;have p:s[m]?=some (s.data.toList[m]' F_):=by
   rw[getElem?_pos s m _];rfl
  have b:aY s m=((s.data.toList[m]' F_).toNat):=by
   unfold aY
   simp_all
  rw[<-i,b];simp[execOp,e,l,j];simp[Instr.index,run_underlying f,asIntOf,k,d,p],.pv (.int _ _)⟩
def bnd(E:cY):Option Operand->Nat->Option Int
 |none,d=>some (d:Int)
 |some x,_=>match aO E x with
  |some (.pv (.int _ n))=>some n
  |_=>none
theorem Z2{w}{I}{ι}{a}{x}{d}{n}(b:lJ w I ι H E a)(h:bnd E (some x) d=some n):∃k,a.eval x=.int k n:=by
 simp[bnd]at h
 split at h
 ·rename_i k n' e;cases h;exact⟨k,(aJ b e).int_inv⟩
 grind
theorem nI{w}{I}{ι}{a}{p hi}{b}(q:lJ w I ι H E a)(g:bnd E p 0=some (l:Int))(f:bnd E hi len=some (h:Int))(r:l<=h)(t:h<=cap):
  (Instr.sliceBounds b len cap (p.map a.eval) (hi.map a.eval) none).run P w=.ok (l,h,cap) w:=by
 have i:∀(k) (n y) (c),n<=y->(Instr.sliceBound _ y c).run P w=.ok n w:=λk n y c hn=>by
  have:=run_sliceBound (P:=P) w k n y c X X
  simpa using this
 cases p with
 | none =>
  have v:l=0:=by simp[bnd]at g;omega
  subst v;cases hi with
  |none =>
   have j:h=len:=by simp[bnd]at f;omega
   subst j;simp[Instr.sliceBounds]
  |some y =>
   have ⟨k,e⟩:=Z2 q f;simp[Instr.sliceBounds,e,i _ _ _ _ t]
 | some x =>
  have ⟨k1,s⟩:=Z2 q g;cases hi with
  |none =>
   have j:h=len:=by simp[bnd]at f;omega
   subst j;simp[Instr.sliceBounds,s,i _ _ _ _ r]
  |some y =>
   have ⟨k2,u⟩:=Z2 q f;simp[Instr.sliceBounds,s,u,i _ _ _ _ r,i _ _ _ _ t]
theorem bM{f hi}{s r}(n:o.op=.slice T x f hi none)(d:P.underlying T=some .string)(j:aO E x=some (.pv (.str s)))
  (b:bnd E f 0=some (l:Int)) (c:bnd E hi s.size=some (h:Int)) (g:l<=h) (p:h<=s.size) (m:s.extract l h=r):cN P N o E H (.pv (.str r)) H :=
 .of_run λa w I ι _ e=>⟨.string r,by
  have k:=(aJ e j).str_inv;have i:=nI (P:=P) (b:=false) e b c g p;subst m;simp[execOp,n,k];simp[run_sliceAt_string w T _ _ _ _ d,Instr.slice,run_underlying d,i],.pv (.str _)⟩
theorem PRep.cut{cs:Nat->Nat->Value}(m:I b)(g:0<sz)(d:∀r∈rows,r.length=sz)(hcap:rows.length<=cap)
  (hc:∀(i:Nat) (r:List PV),rows[i]?=some r->∀(k:Nat) (p:PV),r[k]?=some p->w.cell? ⟨b,off+i*sz+k,none⟩=some (cs i k))
  (hp:∀(i:Nat) (r:List PV),rows[i]?=some r->∀(k:Nat) (p:PV),r[k]?=some p->PRep w I (cs i k) p) (h1:l<=h) (h2:h<=rows.length) :
  PRep w I (.slice (some (if cap=l then⟨b,off,none⟩else(⟨b,off,none⟩:Addr).add (l*sz))) (h - l) (cap - l)) (.sl ((rows.take h).drop l)):=by
 have j:((rows.take h).drop l).length=h - l:=G_
 by_cases e:cap=l
 ·have f:(rows.take h).drop l=[]:=eq_nil_of_length_eq_zero X;rw[b7 e,f];have n:h - l=([]:List (List PV)).length:=G_
  rw[n];exact .sl b off (cap - l) sz [] cs m g H_ H_ H_ H_
 rw[a8 e,Addr.add_lit,<-j];refine .sl b (off+l*sz) (cap - l) sz _ (λi k=>cs (l+i) k) m g (λr q=>d r (mem_of_mem_take (mem_of_mem_drop q))) X ?_ ?_;all_goals grind
theorem Y4{n:Option Operand}{rows':List (List PV)}(F:o.op=.slice T x n hi none)(u_:P.underlying T=some (.slice e))(G:∀w,(sizeOf e).run P w=.ok sz w)(A_:aO E x=some (.pv (.sl rows)))
  (hrows:∀r∈rows,r.length=sz) (i:bnd E n 0=some (l:Int)) (g:bnd E hi rows.length=some (h:Int)) (s:l<=h) (W:h<=rows.length) (R:(rows.take h).drop l=rows'):cN P N o E H (.pv (.sl rows')) H :=
 .of_run λa w I ι _ d_=>by
  have o_:=(aJ d_ A_).pv_inv;generalize c_:a.eval x=c at o_;subst R;have k:P.elem T=e:=by simp[Program.elem,u_]
  have d:P.underlying T=some (.slice (P.elem T)):=F_
  cases o_ with
  |nilsl =>
   have t:h=0:=F_
   have z:l=0:=X
   subst t z;have m:=nI (P:=P) (b:=true) (len:=0) (cap:=0) d_ i g s H_;refine⟨.slice none 0 0,?_,.pv (by simpa using PRep.nilsl)⟩;simp only[execOp,F,c_];have:=run_slice_any (P:=P) w T none 0 0 d (n.map a.eval) (hi.map a.eval) none;simp[run_sliceAt_slice w T _ _ _ _ d,this,m,k,G,sliced]
  |empsl e_ =>
   have t:h=0:=F_
   have z:l=0:=X
   subst t z;have m:=nI (P:=P) (b:=true) (len:=0) (cap:=0) d_ i g s H_;refine⟨.slice (some e_) 0 0,?_,.pv (by simpa using PRep.empsl e_)⟩;simp only[execOp,F,c_];have:=run_slice_any (P:=P) w T (some e_) 0 0 d (n.map a.eval) (hi.map a.eval) none;simp[run_sliceAt_slice w T _ _ _ _ d,this,m,k,G,sliced,Addr.add_zero']
  | sl b j f B _ f_ Q v p A L K =>
   by_cases u:rows=[]
   ·subst u;have t:h=0:=F_
    have z:l=0:=X
    subst t z;have m:=nI (P:=P) (b:=true) (len:=0) (cap:=f) d_ i g s H_;refine⟨.slice (some ⟨b,j,none⟩) 0 f,?_,.pv (by simpa using PRep.sl b j f B [] f_ Q v H_ H_ H_ H_)⟩;simp only[execOp,F,c_];have:=run_slice_any (P:=P) w T (some ⟨b,j,none⟩) 0 f d (n.map a.eval) (hi.map a.eval) none;simp[run_sliceAt_slice w T _ _ _ _ d,this,m,k,G,sliced,Addr.add_zero']
   have q:B=sz:=by
    have ⟨r,rs,e⟩:=exists_cons_of_ne_nil u
    simp_all
   subst q;have m:=nI (P:=P) (b:=true) (len:=rows.length) (cap:=f) d_ i g s X;have D:=PRep.cut (l:=l) (h:=h) Q v p A L K s W;refine⟨_,?_,.pv D⟩;simp only[execOp,F,c_];have:=run_slice_any (P:=P) w T (some ⟨b,j,none⟩) rows.length f d (n.map a.eval) (hi.map a.eval) none;simp only[run_sliceAt_slice w T _ _ _ _ d,Sem.run_bind,this,Option.map_none,m,k,G,sliced,Result.andThen_ok,Sem.run_pure];by_cases v_:f=l<;>simp[v_]
theorem G3{r:Option Operand}(G:o.op=.slice T x r hi none)(e_:P.underlying T=some (.slice e))(K:∀w,(sizeOf e).run P w=.ok sz w)(v_:aO E x=some (.osl id g off len))
  (m:H.get id=some ob) (t:ob.g=g) (u:ob.sz=sz) (p:bnd E r 0=some (l:Int)) (q:bnd E hi len=some (h:Int)) (c_:l<=h) (h2:h<=len) (d_:off+l=j) (A:h - l=i):cN P N o E H (.osl id g j i) H :=
 .of_run λa w I ι u_ D=>by
  have s:=aJ D v_;have ⟨hle,k⟩:=jK s m t;have n:P.elem T=e:=by simp[Program.elem,e_]
  have f:P.underlying T=some (.slice (P.elem T)):=F_
  subst d_ A u;rcases k with⟨b,c,z,B,v,L⟩|⟨B,v,L,f_⟩
  ·have hcap:off+len<=c:=by
    obtain ⟨_,_,⟨b',cap',cs,W,e2,e3,e4,e5,e6,e7⟩|⟨W,_⟩⟩:=(u_.obj id ob m).cells (qA s m t);all_goals grind
   have F:=nI (P:=P) (b:=true) (len:=len) (cap:=c - off) D p q c_ X;have d:=run_slice_any (P:=P) w T (some ⟨b,z,none⟩) len (c - off) f (r.map a.eval) (hi.map a.eval) none;refine⟨.slice (some ⟨b,if c - off=l then z else z+l*ob.sz,none⟩) (h - l) (c - (off+l)),?_,.osl ob m X Z λ_=>⟨qA s m t,X,.inl ⟨b,c,_,B,Z,λhlt=>?_⟩⟩⟩
   ·simp only[execOp,G,v];simp only[run_sliceAt_slice w T _ _ _ _ f,Sem.run_bind,d,Option.map_none,F,n,K,sliced,Result.andThen_ok,Sem.run_pure];by_cases o_:c - off=l
    ·grind
    simp[o_,Addr.add_lit];omega
   grind
  subst L f_;have Q:h=0:=X
  have R:l=0:=X
  subst Q R;have F:=nI (P:=P) (b:=true) (len:=0) (cap:=0) D p q c_ H_;have d:=run_slice_any (P:=P) w T none 0 0 f (r.map a.eval) (hi.map a.eval) none;refine⟨.slice none 0 0,?_,.osl ob m X Z λ_=>⟨qA s m t,X,.inr ⟨B,Z,Z,Z⟩⟩⟩;simp only[execOp,G,v];simp[run_sliceAt_slice w T _ _ _ _ f,d,F,n,K,sliced]
end
end
section
theorem UX(w:World)(b)(c cs)(t)(d:w.heap[b]?=some (.cells c t (0,0)))(a):(w.setRow b cs).frozen? a=w.frozen? a:=by
 by_cases h:a.block=b
 ·subst h;simp[World.frozen?,setRow_heap w _ _ _ t _ d,d]
 simp[World.frozen?,setRow_other w b _ _ h]
section
variable{ob ob':Ob}{cs0 cs':Array Value}
theorem Rel.update(g:Rel I ι H w)(u:H.get id=some ob)(d:ι id=some (b,cap))(E:w.heap[b]?=some (.cells cs0 ob.ty (0,0)))(hg:ob.g<=ob'.g)(m:ob'.sz=ob.sz)(d_:ob'.ty=ob.ty)
  (hlen:ob'.g=ob.g->ob.rows.length<=ob'.rows.length) (K:cs'.size=cap*ob.sz) (p:ob'.rows.length<=cap) (G:∀r∈ob'.rows,r.length=ob.sz)
  (l:∀(i:Nat) (r:List AV),ob'.rows[i]?=some r->∀(k:Nat) (a:AV),r[k]?=some a->∃v,cs'[i*ob.sz+k]?=some v/\v.oneCell'=true/\VRel w I ι H v a)
  (f_:H'.get id=some ob') (N:∀j,j≠id->H'.get j=H.get j):Rel I ι H' (w.setRow b cs')/\Step I ι H w I ι H' (w.setRow b cs'):=by
 have A:NG ι H b:=⟨id,ob,cap,u,d⟩;have n:Step I ι H w I ι H' (w.setRow b cs'):=by
  refine⟨Z,Z,Z,H_,λa _ _=>UX w b cs0 cs' _ E a,λ_ h=>h,λ_ h=>.inl h,?_,?_,?_⟩
  ·rintro x ⟨j,o,c,f,c_⟩;by_cases e:j=id
   ·simp_all
   exact .inl ⟨j,o,c,(N j e).symm.trans f,c_⟩
  ·intro x _ z;exact setRow_other w b x cs' (λe=>z (e▸A))
  grind
 refine⟨⟨λx z=>by simpa using g.imm x z,?_,?_,n.glob g⟩,n⟩
 ·intro j o f;by_cases e:j=id
  ·subst e;rw[f_]at f;cases f;obtain ⟨Q,p2,⟨b',cap',cs,s,e2,W,e4,e5,L,e6⟩|⟨s,_⟩⟩:=(g.obj j ob u).cells ((g.obj j ob u).pos d E)
   ·rw[d]at s;cases s;refine .inl ⟨by rw[m];exact Q,by rw[m];exact G,.inl ⟨b,cap,cs',d,?_,W,by rw[m];exact K,p,L,?_⟩⟩
    ·rw[d_];exact setRow_heap w b cs0 cs' ob.ty (0,0) E
    intro i r R k a u_;have ⟨v,z_,q2,A_⟩:=l i r R k a u_;exact⟨v,by rw[m];exact z_,q2,A_.mono g n⟩
   rw[d]at s;cases s
  rw[N j e]at f;exact(g.obj j o f).keep Z (λx c z _=>⟨setRow_other w b x cs' (λe_=>e (g.inj j id o ob b c cap f u (e_▸z) d)),λh=>h⟩) (λr _ a _ v y_=>y_.mono g n)
 intro j o_ o v_ x c c' f F c_ D;have t:∀j o,H'.get j=some o->∃o,H.get j=some o:=by
  intro j o f;by_cases e:j=id
  ·exact⟨ob,e▸u⟩
  exact⟨o,(N j e).symm.trans f⟩
 have ⟨q,P⟩:=t j o f;have ⟨T,B⟩:=t o_ v_ F;exact g.inj j o_ q T x c c' P B c_ D
theorem Rel.place(n:Rel I ι H w)(K:w'.os=w.os)(t:w'.tape=w.tape)(d_:w'.output=w.output)(hw:w'.heap=w.heap.push (.cells cs' ob'.ty (0,0)))
  (z:∀o,H.get id=some o->o.g<ob'.g) (c_:0<ob'.sz) (G:cs'.size=cap*ob'.sz) (A:ob'.rows.length<=cap) (D:cap<=maxLen) (e_:∀r∈ob'.rows,r.length=ob'.sz)
  (q:∀(i:Nat) (r:List AV),ob'.rows[i]?=some r->∀(k:Nat) (a:AV),r[k]?=some a->∃v,cs'[i*ob'.sz+k]?=some v/\v.oneCell'=true/\VRel w I ι H v a)
  (N:H'.get id=some ob') (s:∀j,j≠id->H'.get j=H.get j) :
  Rel I (λj=>if j=id then some (w.heap.size,cap)else ι j) H' w'/\Step I ι H w I (λj=>if j=id then some (w.heap.size,cap)else ι j) H' w':=by
 have B:w'.heap[w.heap.size]?=some (.cells cs' ob'.ty (0,0)):=F_
 have d:∀x,x<w.heap.size->w'.heap[x]?=w.heap[x]?:=λx u=>by grind
 have hsize:w'.heap.size=w.heap.size+1:=F_
 have p:Step I ι H w I (λj=>if j=id then some (w.heap.size,cap)else ι j) H' w':=by
  refine⟨K,t,d_,X,λa f_ _=>?_,λ_ h=>h,λ_ h=>.inl h,?_,λx u _=>d x u,?_⟩
  ·simp[World.frozen?,d a.block f_]
  ·rintro x ⟨j,o,c,l,m⟩;by_cases e:j=id
   ·simp only[e,if_true]at m;cases m;exact .inr (g_ _)
   simp only[e,if_false]at m;exact .inl ⟨j,o,c,(s j e).symm.trans l,m⟩
  intro j o l;by_cases e:j=id
  ·subst e;have:=z o l;exact⟨ob',N,X,λe=>by omega⟩
  exact⟨o,(s j e).trans l,g_ _,λ_=>⟨by simp[e],Z,λ_=>g_ _⟩⟩
 refine⟨⟨λx u=>by have:=n.imm x u;omega,?_,?_,p.glob n⟩,p⟩
 ·intro j o l;by_cases e:j=id
  ·subst e;rw[N]at l;cases l;refine .inl ⟨c_,e_,.inl ⟨w.heap.size,cap,cs',H_,B,λL=>Nat.lt_irrefl _ (n.imm _ L),G,A,D,λi r L k a Q=>?_⟩⟩;have ⟨v,v_,T,u_⟩:=q i r L k a Q;exact⟨v,v_,T,u_.mono n p⟩
  rw[s j e]at l;exact(n.obj j o l).keep (by simp[e]) (λx c _ u=>⟨d x u,λh=>h⟩) (λr _ a _ v R=>R.mono n p)
 intro j E o o_ x c P l F m g;by_cases e:j=id<;>by_cases y:E=id
 ·rw[e,y]
 ·simp only[e,if_true]at m;simp only[y,if_false]at g;cases m;have:=n.lt ⟨E,o_,P,(s E y).symm.trans F,g⟩;exact absurd this (Nat.lt_irrefl _)
 ·simp only[e,if_false]at m;simp only[y,if_true]at g;cases g;have:=n.lt ⟨j,o,c,(s j e).symm.trans l,m⟩;exact absurd this (Nat.lt_irrefl _)
 simp only[e,if_false]at m;simp only[y,if_false]at g;exact n.inj j E o o_ x c P ((s j e).symm.trans l) ((s E y).symm.trans F) m g
theorem Rel.drawn{w'}(g:Rel I ι H w)(k:w'.os=w.os)(e:w'.tape=w.tape)(f:w'.output=w.output)(i:w'.heap=w.heap):Rel I ι H w'/\Step I ι H w I ι H w':=by have d:Step I ι H w I _ H _:=⟨k,e,f,F_,λa _ _=>by simp[World.frozen?,i],λ_ h=>h,λ_ h=>.inl h,λ_ h=>.inl h,λx _ _=>by rw[i],λ_ o h=>⟨o,h,g_ _,λ_=>⟨Z,Z,λ_=>g_ _⟩⟩⟩;refine⟨⟨λx m=>by rw[i];exact g.imm x m,λj o n=>?_,g.inj,d.glob g⟩,d⟩;exact(g.obj j o n).keep Z (λx c _ _=>⟨by rw[i],λh=>h⟩) (λr _ a _ v l=>l.mono g d)
theorem Rel.tick(g:Rel I ι H w)(d_:H.get id=some ob)(hg:ob.g<ob'.g)(s:ob'.sz=ob.sz)(p:ob'.ty=ob.ty)(hrows:ob'.rows=ob.rows)
  (z:H'.get id=some ob') (m:∀j,j≠id->H'.get j=H.get j):Rel I ι H' w/\Step I ι H w I ι H' w:=by
 have d:Step I ι H w I ι H' w:=by
  refine⟨Z,Z,Z,g_ _,λa _ _=>rfl,λ_ h=>h,λ_ h=>.inl h,?_,λ_ _ _=>rfl,?_⟩
  ·rintro x ⟨j,o,c,f,n⟩;by_cases e:j=id
   ·subst e;exact .inl ⟨j,ob,c,d_,n⟩
   exact .inl ⟨j,o,c,(m j e).symm.trans f,n⟩
  grind
 refine⟨⟨g.imm,?_,?_,d.glob g⟩,d⟩
 ·intro j o f;by_cases e:j=id
  ·subst e;rw[z]at f;cases f;refine(g.obj j ob d_).keepG s p G_ (λ_ _ r h=>⟨r,F_⟩) Z (λx c _ _=>⟨Z,λh=>h⟩) (λi r hi=>⟨r,F_,Z,λk a a' z m v A=>?_⟩);rw[z]at m;cases m;exact A.mono g d
  rw[m j e]at f;exact(g.obj j o f).keep Z (λx c _ _=>⟨Z,λh=>h⟩) (λr _ a _ v A=>A.mono g d)
 intro j B o D x c G f t n y;have l:∀j o,H'.get j=some o->∃o,H.get j=some o:=by
  grind
 have ⟨q,F⟩:=l j o f;have ⟨E,u⟩:=l B D t;exact g.inj j B q E x c G F u n y
theorem Rel.adopt(k:Rel I ι H w)(hH:H.get id=none)(q:0<sz):
  Rel I (λj=>if j=id then none else ι j) ((id,⟨0,sz,ty,[]⟩)::H) w/\Step I ι H w I (λj=>if j=id then none else ι j) ((id,⟨0,sz,ty,[]⟩)::H) w:=by
 have z:aF.get ((id,⟨0,sz,ty,[]⟩)::H) id=some ⟨0,sz,ty,[]⟩:=by simp[aF.get,pI]
 have m:∀j,j≠id->aF.get ((id,⟨0,sz,ty,[]⟩)::H) j=H.get j:=λj e=>by simp[aF.get,jR (Ne.symm e)]
 have g:Step I ι H w I (λj=>if j=id then none else ι j) ((id,⟨0,sz,ty,[]⟩)::H) w:=by
  refine⟨Z,Z,Z,g_ _,λa _ _=>rfl,λ_ h=>h,λ_ h=>.inl h,?_,λ_ _ _=>rfl,?_⟩
  ·rintro x ⟨j,o,c,d,l⟩;by_cases e:j=id
   ·simp_all
   simp only[e,if_false]at l;exact .inl ⟨j,o,c,(m j e).symm.trans d,l⟩
  grind
 refine⟨⟨k.imm,?_,?_,g.glob k⟩,g⟩
 ·intro j o d;by_cases e:j=id
  ·subst e;rw[z]at d;cases d;exact .inl ⟨q,H_,.inr ⟨H_,Z⟩⟩
  rw[m j e]at d;exact(k.obj j o d).keep (by simp[e]) (λx c _ _=>⟨Z,λh=>h⟩) (λr _ a _ v u=>u.mono k g)
 intro j n o y x c t d p l i;by_cases e:j=id
 ·simp_all
 by_cases s:n=id
 ·simp_all
 simp only[e,if_false]at l;simp only[s,if_false]at i;exact k.inj j n o y x c t ((m j e).symm.trans d) ((m n s).symm.trans p) l i
end
def PU:AV->Option (List AV)
 |.agg cs=>some cs
 |.any=>none
 |.tup _=>none
 |v=>some [v]
theorem zt(h:v.oneCell'=true):v.cells=#[v]:=by cases v<;>simp_all[Value.cells,Value.oneCell']
theorem M6{v:AV}(h:VRel w I ι H c v)(k:PU v=some cells):
  c.cells.size=cells.length/\(∀u∈c.cells.toList,u.oneCell'=true)/\∀(j:Nat) (a:AV),cells[j]?=some a->∃u,c.cells[j]?=some u/\u.oneCell'=true/\VRel w I ι H u a:=by
 have f:∀(c:Value) (v:AV),c.oneCell'=true->VRel w I ι H c v->c.cells.size=[v].length/\(∀u∈c.cells.toList,u.oneCell'=true)/\∀(j:Nat) (a:AV),[v][j]?=some a->∃u,c.cells[j]?=some u/\u.oneCell'=true/\VRel w I ι H u a:=by
  intro c v d e;rw[zt d]
  grind
 cases h with
 |any v=>cases k
 |pv h=>cases k;exact f c _ h.oneCell (.pv h)
 |ref o d e g i=>cases k;exact f c _ g (.ref o d e g i)
 |pad b m n t d e g q i y x=>cases k;exact f _ _ Z (.pad b m n t d e g q i y x)
 |osl o d e g i=>cases k;exact f c _ g (.osl o d e g i)
 |clo d e=>cases k;exact f _ _ Z (.clo d e)
 |bnd d e=>cases k;exact f _ _ Z (.bnd d e)
 | @agg r q d e g =>
  cases k;refine⟨d,λu l=>?_,λj a p=>?_⟩
  ·have ⟨j,s⟩:=s8.1 l;exact e j u (by simpa[Value.cells]using s)
  have hlt:=(m9.1 p).1;have l:r[j]?=some (r[j]' X):=Array.getElem?_eq_getElem X;exact⟨_,l,e j _ l,g j _ a l p⟩
 |tup d e=>cases k
 |mp o d e g i=>cases k;exact f c _ g (.mp o d e g i)
 |it o d e g i=>cases k;exact f c _ g (.it o d e g i)
 |yld o d e g i=>cases k;exact f c _ g (.yld o d e g i)
 |osc o d e g i=>cases k;exact f c _ g (.osc o d e g i)
section
variable{o:Oper}{x y:Operand}
theorem get_cons_same(id)(ob)(H:aF):aF.get ((id,ob)::H) id=some ob:=by simp[aF.get,pI]
theorem get_cons_other{id j}(ob)(H:aF)(h:j≠id):aF.get ((id,ob)::H) j=H.get j:=by simp[aF.get,jR (Ne.symm h)]
theorem uy{v:AV}(h:Rel I ι H w)(g:VRel w I ι H c v)(l:PU v=some cells)(d:0<cells.length)(hid:H.get id=none):
  ∃b,VRel (w.alloc (.cells c.cells T)) I b ((id,⟨0,cells.length,T,[cells]⟩)::H) (.pointer (some ⟨w.heap.size,0,none⟩)) (.ref id 0 0 0) /\
   Rel I b ((id,⟨0,cells.length,T,[cells]⟩)::H) (w.alloc (.cells c.cells T))/\Step I ι H w I b ((id,⟨0,cells.length,T,[cells]⟩)::H) (w.alloc (.cells c.cells T)):=by
 have ⟨h1,h2,h3⟩:=M6 g l;have e:=Rel.place (id:=id) (cap:=1) (ob':=⟨0,cells.length,T,[cells]⟩) (cs':=c.cells) (w':=w.alloc (.cells c.cells T)) h Z Z Z Z
  (λo ho=>by simp_all) d G_ H_ (by simp[maxLen]) H_ (λi r hi k a hk=>by
   grind) (get_cons_same _ _ _) (λj f=>get_cons_other _ _ f)
 refine⟨_,.ref _ (get_cons_same _ _ _) (g_ _) Z λ_=>⟨d,w.heap.size,1,H_,H_⟩,e.1,e.2⟩
theorem wL{v}{cells}{id n}(g:o.op=.box T x)(h:aO E x=some v)(l:PU v=some cells)(i:cells.length=n+1)(b:H.get id=none):
  cN P N o E H (.ref id 0 0 0) ((id,⟨0,n+1,T,[cells]⟩)::H):=by
 intro a w I ι _ _ j k K Q f;obtain ⟨ι',e,c,d⟩:=uy j (aJ k h) l X b;rw[i]at e c d;unfold Oper.wpW execOp;simp[g,Instr.box,newVar,newRow,Sem.run_bind,run_newObj,Sem.run_pure,Result.andThen_ok];exact f _ _ I _ _ _ ⟨Z,Z⟩ e c d
def zv:Value->Option AV
 |.agg cs=>(cs.toList.mapM cv).map .agg
 |v=>cv v
theorem Tu{l:List _}{b}(h:l.mapM cv=some b):l.length=b.length/\∀(i:Nat) (v) (a),l[i]?=some v->b[i]?=some a->cv v=some a:=by
 induction l generalizing b with
 |nil=>simp_all
 |cons x l ih =>
  simp[mapM_cons,Option.pure_def,Option.bind_eq_bind,Option.bind_eq_some_iff,Option.some.injEq]at h
  grind
theorem Xn{w}{I}{ι}{z}{v}(h:zv z=some v):VRel w I ι H z v:=by
 unfold zv at h
 split at h
 ·rename_i f;cases e:f.toList.mapM cv with
  |none=>rw[e]at h;cases h
  | some g =>
   rw[e]at h;cases h;have ⟨j,c⟩:=Tu e;refine .agg X (λi u d=>?_) (λi u a d k=>(TE (c i u a F_ k)).1);have b:i<g.length:=by
    have:=(Array.getElem?_eq_some_iff.1 d).1;have:=j;simp at this;omega
   exact(TE (H:=H) (w:=w) (I:=I) (ι:=ι) (c i u _ F_ (m_ b))).2
 exact(TE h).1
def cvN:Value->Option AV
 |.slice none 0 0=>some (.pv .nils)
 |v=>cv v
theorem ZX{w}{I}{ι}{z}{v}(h:cvN z=some v):VRel w I ι H z v/\z.oneCell'=true:=by
 unfold cvN at h
 split at h
 ·cases h;exact⟨.pv .nils,Z⟩
 exact TE h
def zvN:Value->Option AV
 |.agg cs=>(cs.toList.mapM cvN).map .agg
 |v=>cvN v
theorem Jx{l:List _}{b}(h:l.mapM cvN=some b):l.length=b.length/\∀(i:Nat) (v) (a),l[i]?=some v->b[i]?=some a->cvN v=some a:=by
 induction l generalizing b with
 |nil=>simp_all
 |cons x l ih =>
  simp[mapM_cons,Option.pure_def,Option.bind_eq_bind,Option.bind_eq_some_iff,Option.some.injEq]at h
  grind
theorem Pd{w}{I}{ι}{z}{v}(h:zvN z=some v):VRel w I ι H z v:=by
 unfold zvN at h
 split at h
 ·rename_i f;cases e:f.toList.mapM cvN with
  |none=>rw[e]at h;cases h
  | some g =>
   rw[e]at h;cases h;have ⟨j,c⟩:=Jx e;refine .agg X (λi u d=>?_) (λi u a d k=>(ZX (c i u a F_ k)).1);have b:i<g.length:=by
    have:=(Array.getElem?_eq_some_iff.1 d).1;have:=j;simp at this;omega
   exact(ZX (H:=H) (w:=w) (I:=I) (ι:=ι) (c i u _ F_ (m_ b))).2
 exact(ZX h).1
def ZV(z:Value)(v:AV):Prop:=zv z=some v\/zvN z=some v
theorem ZV.rel{w}{I}{ι}{z}{v}(h:ZV z v):VRel w I ι H z v:=h.elim Xn Pd
theorem zq{z}{v}{cells}{id n}(i:o.op=.alloc T)(f:∀w,(zeroValue T).run P w=.ok z w)(j:ZV z v)(l:PU v=some cells)(g:cells.length=n+1)(b:H.get id=none):
  cN P N o E H (.ref id 0 0 0) ((id,⟨0,n+1,T,[cells]⟩)::H):=by
 intro a w I ι _ _ k he K Q h;obtain ⟨ι',e,c,d⟩:=uy k (ZV.rel j) l X b;rw[g]at e c d;unfold Oper.wpW execOp;simp[i,Instr.alloc,f,newVar,newRow,Sem.run_bind,run_newObj,Sem.run_pure,Result.andThen_ok];exact h _ _ I _ _ _ ⟨Z,Z⟩ e c d
theorem eI{id sz}{ty}(f:o.op=.assign (.const (.slice none 0 0)))(b:H.get id=none)(hsz:Nat.blt 0 sz=true):
  cN P N o E H (.osl id 0 0 0) ((id,⟨0,sz,ty,[]⟩)::H):=by
 intro a w I ι _ _ g he K Q e;obtain ⟨d,c⟩:=Rel.adopt (sz:=sz) g b F_;unfold Oper.wpW execOp;simp[f,Sem.run_pure,Act.eval];exact e _ _ I _ _ _ ⟨Z,Z⟩ (.osl _ (get_cons_same _ _ _) (g_ _) Z λ_=>⟨F_,H_,.inr ⟨H_,Z,Z,Z⟩⟩) d c
theorem v6{p:Prop}(h:p:=by simp;omega):p:=h
theorem Fi{v:AV}{r r':List AV}(ho:o.op=.store T x y)(hr:Rel I ι H w)(R:VRel w I ι H (a.eval x) (.ref id g i k))(hyv:VRel w I ι H (a.eval y) v)(hc:PU v=some cells)
  (hs:∀w,(sizeOf T).run P w=.ok n w) (f_:cells.length=n) (v_:H.get id=some ob) (hg:ob.g=g) (hi:ob.rows[i]?=some r) (hk:k+n<=r.length)
  (hr':r.take k++(cells++r.drop (k+n))=r') (L:H.set id {ob with rows:=ob.rows.set i r'}=H2) (K:Act->World->Prop) (Q:Exit->Act->World->Prop)
  (hkk:∀c w',Rel I ι H2 w'->Step I ι H w I ι H2 w'->K (a.put o.dst c) w'):o.wpW P a w K Q:=by
 have ⟨b,cap,h1,h3⟩:=pN R v_ hg;have ⟨A_,c2,c3⟩:=M6 hyv hc;obtain ⟨p1,p2,⟨b',cap',d_,o_,e2,e3,e4,e5,e5',e6⟩|⟨o_,_⟩⟩:=(hr.obj id ob v_).cells (QW R v_ hg)
 ·rw [h1] at o_;cases o_;have hil:i < ob.rows.length:=(m9.1 hi).1;have hrl:r.length=ob.sz:=p2 r (m8 hi);have hfit:i*ob.sz+k+n<=d_.size:=by
   have:(i+1)*ob.sz<=cap*ob.sz:=Nat.mul_le_mul_right _ (by omega);rw[Nat.add_mul]at this;omega
  have F:(a.eval y).cells.toList.length=n:=by simp_all
  have c_:=run_storeCells_at P b (i*ob.sz+k) ob.ty (a.eval y).cells.toList 0 d_ w e2 (by omega) c2;simp only[Nat.add_zero,F]at c_;have z:r'.length=r.length:=by grind
  obtain ⟨e_,B⟩:=Rel.update (H':=H2) (ob':={ob with rows:=ob.rows.set i r'}) (cs':=(d_.toList.take (i*ob.sz+k)++(a.eval y).cells.toList++d_.toList.drop (i*ob.sz+k+n)).toArray)
   hr v_ h1 e2 (g_ _) Z Z (λ_=>by simp) G_ F_
   (λq G=>by
    grind)
   (λl q G m W f=>by
    have hql:q.length=ob.sz:=by
     have hm:=m8 G;rcases mem_or_eq_of_mem_set hm with h|h
     ·exact p2 q h
     rw[h,z,hrl]
    have hk'l:m<ob.sz:=by grind
    simp only[List.getElem?_toArray];by_cases e:l=i
    ·subst e;have z_:q=r':=by
      rw[List.getElem?_set_self hil]at G;exact(Option.some.inj G).symm
     subst z_;rw[<-hr']at f;by_cases ha:m<k
     ·rw[getElem?_append_left v6,getElem?_take,b7 ha]at f;have ⟨u,s,A,t⟩:=e6 l r hi m W f;refine⟨u,?_,A,t⟩;rw[append_assoc,getElem?_append_left v6,getElem?_take,b7 X]
      simpa using s
     by_cases hb:m<k+n
     ·rw[List.getElem?_append_right (by simp;omega),List.getElem?_append_left (by simp;omega)]at f;have p:min k r.length=k:=by omega
      simp only[q9,p]at f;obtain ⟨u,s,A,t⟩:=c3 (m - k) W f;refine⟨u,?_,A,t⟩;rw[List.append_assoc,List.getElem?_append_right (by simp;omega),List.getElem?_append_left (by simp[A_,f_];omega)];have d:min (l*ob.sz+k) d_.size=l*ob.sz+k:=by omega
      simp only[q9,Array.length_toList,d];rw[show l*ob.sz+m - (l*ob.sz+k)=m - k by omega]
      simpa using s
     rw[List.getElem?_append_right (by simp;omega),List.getElem?_append_right (by simp;omega),List.getElem?_drop]at f;have p:min k r.length=k:=by omega
     simp only[q9,p,f_]at f;rw[show k+n+(m - k - n)=m by omega]at f;obtain ⟨u,s,A,t⟩:=e6 l r hi m W f;refine⟨u,?_,A,t⟩;rw[List.append_assoc,List.getElem?_append_right (by simp;omega),List.getElem?_append_right (by simp[A_,f_];omega),List.getElem?_drop];have d:min (l*ob.sz+k) d_.size=l*ob.sz+k:=by omega
     simp only[q9,Array.length_toList,d,F];rw[show l*ob.sz+k+n+(l*ob.sz+m - (l*ob.sz+k) - n)=l*ob.sz+m by omega]
     simpa using s
    rw[List.getElem?_set_ne (Ne.symm e)]at G;obtain ⟨u,s,A,t⟩:=e6 l q G m W f;refine⟨u,?_,A,t⟩;rcases Nat.lt_or_gt_of_ne e with y_|hgt
    ·have:(l+1)*ob.sz<=i*ob.sz:=mul_le_mul_right _ y_;rw[Nat.add_mul]at this;rw[append_assoc,getElem?_append_left v6,getElem?_take,b7 X]
     simpa using s
    have:(i+1)*ob.sz<=l*ob.sz:=Nat.mul_le_mul_right _ hgt;rw[Nat.add_mul]at this;rw[List.append_assoc,List.getElem?_append_right (by simp;omega),List.getElem?_append_right (by simp[A_,f_];omega),List.getElem?_drop];have d:min (i*ob.sz+k) d_.size=i*ob.sz+k:=by omega
    simp only[q9,Array.length_toList,d,F];rw[show i*ob.sz+k+n+(l*ob.sz+m - (i*ob.sz+k) - n)=l*ob.sz+m by omega]
    simpa using s)
   (by rw[<-L];exact aF.get_set_same _ _ _) (λj hj=>by rw[<-L];exact aF.get_set_other _ _ hj)
  unfold Oper.wpW execOp;have u_:¬ ((a.eval y).cells.size≠n):=by simp[A_,f_]
  simp only[ho,h3,Instr.storeAt,Instr.sureAddr,storeVar,Sem.run_bind,Sem.run_pure,Result.andThen_ok,hs,Sem.run_ite,u_,if_false,c_];exact hkk _ _ e_ B
 rw[h1]at o_;cases o_
theorem MC{v}{cells r r'}{id g i k n}{ob}{H2}(A:o.op=.store T x y)(l:aO E x=some (.ref id g i k))(j:aO E y=some v)(q:PU v=some cells)
  (p:∀w,(sizeOf T).run P w=.ok n w) (s:cells.length=n) (u:H.get id=some ob) (B:ob.g=g) (hi:ob.rows[i]?=some r) (z:k+n<=r.length)
  (b:r.take k++(cells++r.drop (k+n))=r') (d:H.set id {ob with rows:=ob.rows.set i r'}=H2):cN P N o E H .any H2:=by
 intro a w I ι _ _ m f K Q e;exact Fi A m (aJ f l) (aJ f j) q p s u B hi z b d K Q (λc w' t h=>e c _ I _ _ _ ⟨Z,Z⟩ (.any _) t h)
end
end
section
inductive Clo(H:aF):AV->Prop
 |any:Clo H .any
 |pv (p:PV):Clo H (.pv p)
 |pad (rows:List (List PV)) (i k:Nat):Clo H (.pad rows i k)
 |ref {id g i k:Nat} (h:(H.get id).isSome=true):Clo H (.ref id g i k)
 |osl {id g off len:Nat} (h:(H.get id).isSome=true):Clo H (.osl id g off len)
 |clo {f:FuncId} {caps:List AV} (h:∀a∈caps,Clo H a):Clo H (.clo f caps)
 |bnd {f:FuncId} {xs:List AV} (h:∀a∈xs,Clo H a):Clo H (.bnd f xs)
 |agg {cs:List AV} (h:∀a∈cs,Clo H a):Clo H (.agg cs)
 |tup {cs:List AV} (h:∀a∈cs,Clo H a):Clo H (.tup cs)
 |mp {id g:Nat} (h:(H.get id).isSome=true):Clo H (.mp id g)
 |it {id g:Nat} (h:(H.get id).isSome=true):Clo H (.it id g)
 |yld {id g:Nat} (h:(H.get id).isSome=true):Clo H (.yld id g)
 |raw (x:Go.Loop) (ts:List Nat):Clo H (.raw x ts)
 |osc {id g off len c:Nat} (h:(H.get id).isSome=true):Clo H (.osc id g off len c)
@[simp] theorem aDd(H):Clo H .any=True:=eq_true .any
@[simp] theorem aEX(H)(p):Clo H (.pv p)=True:=eq_true (.pv p)
@[simp] theorem aDc(H)(rows)(i k):Clo H (.pad rows i k)=True:=eq_true (.pad _ i k)
@[simp] theorem DI(H)(id g i k):Clo H (.ref id g i k)=((H.get id).isSome=true):=propext ⟨λh=>by cases h;assumption,.ref⟩
@[simp] theorem Vn(H)(id g i k):Clo H (.osl id g i k)=((H.get id).isSome=true):=propext ⟨λh=>by cases h;assumption,.osl⟩
@[simp] theorem aAy(H)(id g):Clo H (.mp id g)=((H.get id).isSome=true):=propext ⟨λh=>by cases h;assumption,.mp⟩
@[simp] theorem aAz(H)(id g):Clo H (.it id g)=((H.get id).isSome=true):=propext ⟨λh=>by cases h;assumption,.it⟩
@[simp] theorem Vl(H)(id g):Clo H (.yld id g)=((H.get id).isSome=true):=propext ⟨λh=>by cases h;assumption,.yld⟩
@[simp] theorem aDb(H)(x)(a):Clo H (.raw x a)=True:=eq_true (.raw x _)
@[simp] theorem Vo(H)(id g off len c):Clo H (.osc id g off len c)=((H.get id).isSome=true):=propext ⟨λh=>by cases h;assumption,.osc⟩
@[simp] theorem Vp(H)(f)(l):Clo H (.clo f l)=∀a∈l,Clo H a:=propext ⟨λh=>by cases h;assumption,.clo⟩
@[simp] theorem Vq(H)(f)(l):Clo H (.bnd f l)=∀a∈l,Clo H a:=propext ⟨λh=>by cases h;assumption,.bnd⟩
@[simp] theorem ZZ(H)(l):Clo H (.agg l)=∀a∈l,Clo H a:=propext ⟨λh=>by cases h;assumption,.agg⟩
@[simp] theorem Vm(H)(l):Clo H (.tup l)=∀a∈l,Clo H a:=propext ⟨λh=>by cases h;assumption,.tup⟩
def Sub(H' H:aF):Prop:=∀id o,H'.get id=some o->H.get id=some o
def dG(H:aF):Prop:=∀id o,H.get id=some o->∀r∈o.rows,∀a∈r,Clo H a
theorem VRel.restrict{w}{I}{ι}{H H'}(p:Sub H' H){v}{a}(h:VRel w I ι H v a):Clo H' a->VRel w I ι H' v a:=by
 induction h with
 |any v=>exact λ_=>.any v
 |pv h=>exact λ_=>.pv h
 | ref o e g f j =>
  intro c;cases c with
  |ref c =>
   have ⟨q,d⟩:=Option.isSome_iff_exists.1 c;have:=p _ _ d;rw[e]at this;cases this;exact .ref o d g f j
 |pad b off cap sz e g f D j E d_=>exact λ_=>.pad b _ _ _ e g f D j E d_
 | osl o e g f j =>
  intro c;cases c with
  |osl c =>
   have ⟨q,d⟩:=Option.isSome_iff_exists.1 c;have:=p _ _ d;rw[e]at this;cases this;exact .osl o d g f j
 |clo m h l =>
  intro c;cases c with|clo c=>exact .clo m λi v a n k=>l i v a n k (c a (m8 k))
 |bnd m h l =>
  intro c;cases c with|bnd c=>exact .bnd m λi v a n k=>l i v a n k (c a (m8 k))
 |agg m e h l =>
  intro c;cases c with|agg c=>exact .agg m e λi v a n k=>l i v a n k (c a (m8 k))
 |tup m h l =>
  intro c;cases c with|tup c=>exact .tup m λi v a n k=>l i v a n k (c a (m8 k))
 | mp o e g f j =>
  intro c;cases c with
  |mp c =>
   have ⟨q,d⟩:=Option.isSome_iff_exists.1 c;have:=p _ _ d;rw[e]at this;cases this;exact .mp o d g f j
 | it o e g f j =>
  intro c;cases c with
  |it c =>
   have ⟨q,d⟩:=Option.isSome_iff_exists.1 c;have:=p _ _ d;rw[e]at this;cases this;exact .it o d g f j
 | yld o e g f j =>
  intro c;cases c with
  |yld c =>
   have ⟨q,d⟩:=Option.isSome_iff_exists.1 c;have:=p _ _ d;rw[e]at this;cases this;exact .yld o d g f j
 | osc o e g f j =>
  intro c;cases c with
  |osc c =>
   have ⟨q,d⟩:=Option.isSome_iff_exists.1 c;have:=p _ _ d;rw[e]at this;cases this;exact .osc o d g f j
theorem NG.sub{ι}{H H'}(d:Sub H' H){b}(h:NG ι H' b):NG ι H b :=let ⟨id,o,c,a,e⟩:=h;⟨id,o,c,d _ o a,e⟩
theorem Rel.restrict{I}{ι}{H H'}{w}(e:Rel I ι H w)(d:Sub H' H)(l:dG H'):Rel I ι H' w where
 imm:=e.imm
 obj:=λid o g=>(e.obj _ o (d _ o g)).keep Z (λ_ _ _ _=>⟨Z,λh=>h⟩) (λr f a i v k=>k.restrict d (l _ o g r f a i))
 inj:=λid id' o o' b c c' h j=>e.inj _ _ o _ b c _ (d _ o h) (d _ _ j)
 glob:=e.glob
def OL(H0 H' H:aF):Prop:=∀id,(H0.get id).isSome=true->H'.get id=H.get id
theorem Step.restrict{c I}{a ι}{H0 H H'}{d w}(h:Step c a H0 d I ι H w)(f:Sub H' H)(k:OL H0 H' H):Step c a H0 d I ι H' w where
 os:=h.os
 tape:=h.tape
 output:=h.output
 size:=h.size
 froz:=h.froz
 imm:=h.imm
 immNew:=h.immNew
 own:=λb j=>h.own b (j.sub f)
 keep:=h.keep
 objs:=λid o e=>by
  obtain ⟨i,g,l⟩:=h.objs _ o e;exact⟨i,(k _ G_).trans g,l⟩
def Dk(E:cY)(H':aF):cY->Prop
 | []=>True
 |(t,v)::r=>(∃v0,E.get t=some v0/\v0=v)/\Clo H' v/\Dk E H' r
def an(H H':aF):aF->Prop
 | []=>True
 |(id,o)::r=>(∃o0,H.get id=some o0/\o0=o)/\(∀r∈o.rows,∀a∈r,Clo H' a)/\an H H' r
def Dj(H' H:aF):aF->Prop
 | []=>True
 |(id,_)::r=>H'.get id=H.get id/\Dj H' H r
theorem iL{t}{v}(h:E.get t=some v):(t,v)∈E:=by
 induction E with
 |nil=>cases h
 | cons x r ih =>
  have ⟨i,u⟩:=x;cases e:Nat.beq i t with
  |true =>
   have:=eq_of_beq_eq_true e;subst this;simp[cY.get,e]at h;simp[h]
  |false=>simp[cY.get,e]at h;simp_all
theorem dY{t}{o}(h:H.get t=some o):(t,o)∈H:=by
 induction H with
 |nil=>cases h
 | cons x r ih =>
  have ⟨i,u⟩:=x;cases e:Nat.beq i t with
  |true =>
   have:=eq_of_beq_eq_true e;subst this;simp[aF.get,e]at h;simp[h]
  |false=>simp[aF.get,e]at h;simp_all
theorem Dk.spec{E}{H'}{E'}(h:Dk E H' E'):∀p∈E',E.get p.1=some p.2/\Clo H' p.2:=by
 induction E' with
 |nil=>simp
 |cons x r ih =>
  have ⟨⟨v0,h1,h2⟩,h3,h4⟩:=h
  grind
theorem an.spec{H H'}{L}(h:an H H' L):∀p∈L,H.get p.1=some p.2/\∀r∈p.2.rows,∀a∈r,Clo H' a:=by
 induction L with
 |nil=>simp
 |cons x r ih =>
  have ⟨⟨v0,h1,h2⟩,h3,h4⟩:=h;intro p hp
  grind
theorem Dj.spec{H' H}{L}(h:Dj H' H L):∀p∈L,H'.get p.1=H.get p.1:=by
 induction L with
 |nil=>simp
 |cons x r b =>
  intro p a;rcases l9.1 a with e|e
  ·subst e;exact h.1
  exact b h.2 p e
theorem an.sub{H H'}(h:an H H' H'):Sub H' H:=λid o a=>(h.spec _ (dY a)).1
theorem an.closed{H H'}(h:an H H' H'):dG H':=λid o a=>(h.spec _ (dY a)).2
theorem Dj.kept{H0 H' H}(h:Dj H' H H0):OL H0 H' H:=λid b=>by
 have ⟨o,a⟩:=Option.isSome_iff_exists.1 b;exact h.spec _ (dY a)
theorem cL.wk{G0}{E E'}{H H'}(f:Dk E H' E')(b:an H H' H')(i:Dj H' H G0):cL G0 E H E' H':=by intro G l N a w d;have ⟨I,n,j,e,k⟩:=d.rel;subst l;refine⟨d.defers,d.size,I,n,j.restrict b.sub b.closed,e.restrict b.sub i.kept,λt v g=>?_⟩;have ⟨h,o⟩:=f.spec _ (iL g);have ⟨c,m,p⟩:=k t v h;exact⟨c,m,p.restrict b.sub o⟩
theorem cL.trans{G0}{E E' b}{H H' c}(h:cL G0 E H E' H')(f:cL G0 E' H' b c):cL G0 E H b c:=λG d N a w e=>f G d N a w (h G d N a w e)
theorem cL.env{G0}{E E'}{H}(d:∀p∈E',E.get p.1=some p.2):cL G0 E H E' H:=by intro G hG N a w c;have ⟨I,g,e,b,h⟩:=c.rel;exact⟨c.defers,c.size,I,g,e,b,λt v f=>h t v (d _ (iL f))⟩
inductive Fz(H':aF)(id g:Nat)(ps:List (List PV)):AV->AV->Prop
 |same {a:AV} (h:Clo H' a):Fz H' id g ps a a
 |osl {off len:Nat} {qs:List (List PV)} (hq:(ps.take (off+len)).drop off=qs):Fz H' id g ps (.osl id g off len) (.pv (.sl qs))
 |agg {cs cs':List AV} (hl:cs.length=cs'.length) (h:∀(i:Nat) (a a':AV),cs[i]?=some a->cs'[i]?=some a'->Fz H' id g ps a a'):Fz H' id g ps (.agg cs) (.agg cs')
 |tup {cs cs':List AV} (hl:cs.length=cs'.length) (h:∀(i:Nat) (a a':AV),cs[i]?=some a->cs'[i]?=some a'->Fz H' id g ps a a'):Fz H' id g ps (.tup cs) (.tup cs')
theorem Fz.raw{H'}{id g}{ps}{a a'}(h:Fz H' id g ps a a'){y}{b}(e:a'=.raw y b):a=.raw y b:=by cases h<;>first|exact e|cases e
def qV(I:Nat->Prop)(ι:lQ)(id:Nat):Nat->Prop:=λb=>I b\/∃cap,ι id=some (b,cap)
theorem E4(E:Rel I ι H w)(j:H.get id=some ob)(d:ob.rows=ps.map (·.map .pv))(x:VRel w I ι H v (.osl id ob.g off len)):
  PRep w (qV I ι id) v (.sl ((ps.take (off+len)).drop off)):=by
 obtain ⟨hle,⟨b,a,D,e,s,q⟩|⟨e,s,q,c_⟩⟩:=jK x j Z
 ·obtain ⟨y,d_,⟨b',cap',A,f,B,e3,e4,e5,e5',t⟩|⟨f,_⟩⟩:=(E.obj id ob j).cells (qA x j Z)
  ·rw[e]at f;cases f;have hlen:ps.length=ob.rows.length:=F_
   have c:=PRep.cut (w:=w) (I:=qV I ι id) (b:=b) (off:=0) (cap:=a) (sz:=ob.sz) (rows:=ps) (l:=off) (h:=off+len) (cs:=λi k=>(A[i*ob.sz+k]?).getD undef)
    (.inr ⟨a,e⟩) y (λr hr'=>by
     have:r.map AV.pv∈ob.rows:=G_
     have:=d_ _ this
     simpa using this) X
    (λi r o k p m=>by
     have ⟨u,n,F,z⟩:=t i (r.map .pv) (by rw[d];simp[o]) k (.pv p) (by simp[m]);rw[r9,cell_of_row w b _ A ob.ty (0,0) B,n];rfl)
    (λi r o k p m=>by
     have ⟨u,n,F,z⟩:=t i (r.map .pv) (by rw[d];simp[o]) k (.pv p) (by simp[m]);rw[n];exact z.pv_inv.mono (λ_ _=>rfl) (λ_ h=>.inl h)) X X
   rw[s];by_cases G:a=off
   ·have l:len=0:=X
    subst l;have:(ps.take (off+0)).drop off=[]:=eq_nil_of_length_eq_zero H_;rw[this];exact .sl b D (a - off) ob.sz [] (λ_ _=>undef) (.inr ⟨a,e⟩) y H_ H_ H_ H_
   rw[a8 G,Addr.add_lit]at c;rw[q X]
   simpa using c
  rw[e]at f;cases f
 subst q c_;rw[s]
 simpa using PRep.nilsl
theorem VRel.freeze{w}{I}{ι}{H H'}{id}{ob}{ps}(p:Rel I ι H w)(s:Sub H' H)(x:H.get id=some ob)(m:ob.rows=ps.map (·.map .pv)){a a'}(q:Fz H' id ob.g ps a a'):
  ∀ {v},VRel w I ι H v a->VRel w (qV I ι id) ι H' v a':=by
 induction q with
 |same h=>exact λc=>(c.restrict s h).mono' (λ_ _=>rfl) (λ_ h=>.inl h) (λ_ o h=>⟨o,h,g_ _,λ_=>⟨Z,Z,λ_=>g_ _⟩⟩)
 |osl r =>
  intro v c;subst r;exact .pv (E4 p x m c)
 | agg g h j =>
  intro v c;cases c with
  |agg k t f =>
   refine .agg (k.trans g) t λi u a' l b=>?_;have n:=(m9.1 b).1;exact j i _ _ (m_ X) b (f i u _ l (m_ _))
 | tup g h j =>
  intro v c;cases c with
  |tup k f =>
   refine .tup (k.trans g) λi u a' l b=>?_;have n:=(m9.1 b).1;exact j i _ _ (m_ _) b (f i u _ l (m_ X))
theorem Rel.freeze{w}{I}{ι}{H H'}{id}{ob}(c:Rel I ι H w)(l:Sub H' H)(p:dG H')(k:H.get id=some ob)(i:H'.get id=none):Rel (qV I ι id) ι H' w:=by
 have e:=c.restrict l p;refine⟨λb d=>?_,λj o g=>?_,e.inj,c.glob.mono (λ_ _=>rfl) (λ_ h=>.inl h)⟩
 ·rcases d with d|⟨f,d⟩
  ·exact c.imm b d
  exact c.lt ⟨id,ob,f,k,d⟩
 refine(e.obj j o g).keep Z (λb' cap' m _=>⟨Z,λe3=>?_⟩) (λr _ a _ v n=>n.mono' (λ_ _=>rfl) (λ_ h=>.inl h) (λ_ o h=>⟨o,h,g_ _,λ_=>⟨Z,Z,λ_=>g_ _⟩⟩));rintro(h|⟨f,h⟩)
 ·grind
 have:=c.inj j _ o _ _ _ _ (l j o g) k m h;rw[this,i]at g;cases g
theorem Step.freeze{f I}{c ι}{H0 H H'}{e w}{id}{ob}(h:Step f c H0 e I ι H w)(j:Sub H' H)(i:OL H0 H' H)(k:H.get id=some ob):Step f c H0 e (qV I ι id) ι H' w :=let l:=h.restrict j i
  { l with
    imm:=λb a=>.inl (h.imm b a)
    immNew:=λb a=>by
      rcases a with a|⟨d,a⟩
      · exact h.immNew b a
      · rcases h.own b ⟨id,ob,d,k,a⟩with g|g
        all_goals simp_all}
def Fin(G0:aF)(H:aF)(r:AV)(H':aF)(r':AV):Prop :=∀(G:Entry),G.H=G0->∀(I:Nat->Prop) (ι:lQ) (w:World) (v:Value),Rel I ι H w->Step G.I G.ι G.H G.w I ι H w->VRel w I ι H v r ->
  ∃I' ι',Rel I' ι' H' w/\Step G.I G.ι G.H G.w I' ι' H' w/\VRel w I' ι' H' v r'
theorem Fin.wk{G0 H H'}{r}(c:Clo H' r)(a:an H H' H')(b:Dj H' H G0):Fin G0 H r H' r:=by intro G d I f w v h g e;subst d;exact⟨I,f,h.restrict a.sub a.closed,g.restrict a.sub b.kept,e.restrict a.sub c⟩
theorem Fin.trans{G0 H H' a}{r r' b}(h:Fin G0 H r H' r')(i:Fin G0 H' r' a b):Fin G0 H r a b:=by intro G c I ι w v j f g;have ⟨I',ι',d,e,k⟩:=h G c I _ w v j f g;exact i G c _ _ w v d e k
theorem Fin.fz{G0 H H'}{r r'}{id}{ob}(ps)(c:H.get id=some ob)(d:ob.rows=ps.map (·.map .pv))(h:Fz H' id ob.g ps r r')(b:H'.get id=none)(a:an H H' H')(i:Dj H' H G0):Fin G0 H r H' r':=by intro G f I j w v e k g;subst f;exact⟨_,j,e.freeze a.sub a.closed c b,k.freeze a.sub i.kept c,VRel.freeze e a.sub c d h g⟩
theorem cL.fz{G0}{E E'}{H H'}{id}{ob}(ps)(f:H.get id=some ob)(h:ob.rows=ps.map (·.map .pv))(j:∀p∈E',∃v0,E.get p.1=some v0/\Fz H' id ob.g ps v0 p.2)(e:H'.get id=none)
  (b:an H H' H') (s:Dj H' H G0):cL G0 E H E' H':=by
 intro G u N a w d;have ⟨I,q,i,g,l⟩:=d.rel;subst u;refine⟨d.defers,d.size,_,q,i.freeze b.sub b.closed f e,g.freeze b.sub s.kept f,λt v m=>?_⟩;have ⟨v0,o,r⟩:=j _ (iL m);have ⟨c,n,k⟩:=l t _ o;exact⟨c,n,VRel.freeze i b.sub f h r k⟩
def nX(args:List AV):cY:=args.zipIdx.map λ(v,i)=>(i,v)
def cj(tmps:Array Value):ResultVar->Sem Value
 |.tmp t=>pure (tmps.getD t undef)
 |.cell a t=>do loadVar t (<-asAddr (tmps.getD a undef))
theorem uP(c)(a):results c a=(do let b <-c.results.mapM (cj a);pure (if h:b.size=1 then b[0]else .tuple b)):=rfl
def OK(P:Program)(E:cY)(H:aF)(x:ResultVar)(r:AV):Prop :=∀(a:Act) (w:World) (I:Nat->Prop) (ι:lQ),Rel I ι H w->lJ w I ι H E a ->
  ∃v,(cj a.tmps x).run P w=.ok v w/\VRel w I ι H v r
theorem aH{P}{E}{H}{t}{r}(h:E.get t=some r):OK P E H (.tmp t) r:=λa w I ι _ d=>by
 have ⟨c,e,b⟩:=d t r h;exact⟨c,by simp[cj,e],b⟩
theorem fB{P}{E}{H}{t}{T}{n id g i k}{ob}{r cs}(m:E.get t=some (.ref id g i k))(p:∀w,(isAgg T).run P w=.ok true w)(A:∀w,(sizeOf T).run P w=.ok n w)(h:H.get id=some ob)(j:ob.g=g)
  (hi:ob.rows[i]?=some r) (x:(r.drop k).take n=cs) (y:cs.length=n):OK P E H (.cell t T) (.agg cs):=λa w I ι s z=>by
 have ⟨c,o,l⟩:=z t _ m;have ⟨v,u,q⟩:=Jy (FY s l h j hi) p A x y;have ⟨b,cap,_,e⟩:=pN l h j;subst e;refine⟨v,?_,q⟩
 simpa[cj,o,asAddr,Instr.loadAt,Instr.sureAddr]using u
theorem iK{P}{E}{H}{t}{T}{id g i k}{ob}{r}{v}(p:E.get t=some (.ref id g i k))(q:∀w,(isAgg T).run P w=.ok false w)(f:H.get id=some ob)(h:ob.g=g)
  (hi:ob.rows[i]?=some r) (hk:r[k]?=some v):OK P E H (.cell t T) v:=λa w I ι m n=>by
 have ⟨c,o,j⟩:=n t _ p;have ⟨u,l,s⟩:=Jz (a:=v) (FY m j f h hi) q F_;have ⟨b,cap,_,e⟩:=pN j f h;subst e;refine⟨u,?_,s⟩
 simpa[cj,o,asAddr,Instr.loadAt,Instr.sureAddr]using l
def NH(P:Program)(fn:Func)(G0:aF)(Q:AV->aF->Prop)(e:Exit)(E:cY)(H:aF):Prop :=(e=.normal\/e=.ret)/\∃r,(∀(a:Act) (w:World) (I:Nat->Prop) (ι:lQ),Rel I ι H w->lJ w I ι H E a->∃v,(results fn a.tmps).run P w=.ok v w/\VRel w I ι H v r)/\∃r' H',Fin G0 H r H' r'/\Q r' H'
section
variable{fn:Func}{Q:AV->aF->Prop}{e:Exit}
theorem oT(d:e=.normal\/e=.ret)(f:fn.results=#[]){r'}{H'}(b:Fin G0 H (.tup []) H' r')(c:Q r' H'):NH P fn G0 Q e E H :=⟨d,.tup _,λa w I ι _ _=>⟨.tuple #[],by simp[results,f],.tup Z H_⟩,r',H',b,c⟩
theorem cR(j:e=.normal\/e=.ret){x}{r r'}{H'}(i:fn.results=#[x])(g:OK P E H x r)(b:Fin G0 H r H' r')(f:Q r' H'):NH P fn G0 Q e E H :=⟨j,r,λa w I ι h c=>by
  have ⟨v,d,k⟩:=g a w I _ h c;exact⟨v,by rw[uP,i];simp[d],k⟩,r',H',b,f⟩
theorem fP(j:e=.normal\/e=.ret){x y}{H'}(i:fn.results=#[x,y])(g:OK P E H x r)(k:OK P E H y s)(b:Fin G0 H (.tup [r,s]) H' r')(h:Q r' H'):NH P fn G0 Q e E H :=⟨j,.tup _,λa w I d f c=>by
  have ⟨v,h1,h2⟩:=g a w I d f c;have ⟨u,h3,h4⟩:=k a w I d f c;refine⟨.tuple #[v,u],by rw[uP,i];simp_all,.tup Z ?_⟩
  grind,r',H',b,h⟩
theorem lX(j:e=.normal\/e=.ret){x y z:ResultVar}{t:AV}(k:fn.results=#[x,y,z])(l:OK P E H x r)(h:OK P E H y s)(i:OK P E H z t)(b:Fin G0 H (.tup [r,s,t]) H' r')(g:Q r' H'):NH P fn G0 Q e E H :=⟨j,.tup [r,s,t],λa w I f c d=>by
  have ⟨v,h1,h2⟩:=l a w I f c d;have ⟨u,h3,h4⟩:=h a w I f c d;have ⟨q,h5,h6⟩:=i a w I f c d;refine⟨.tuple #[v,u,q],by rw[uP,k];simp_all,.tup Z ?_⟩
  grind,r',H',b,g⟩
end
theorem wY{args}{t}{v}(h:(nX args).get t=some v):args[t]?=some v:=by have c:=iL h;simp[nX,mem_map,Prod.mk.injEq,Prod.exists]at c;have ⟨a,i,b,e,d⟩:=c;subst e d;rw[mem_zipIdx_iff_getElem?]at b;exact b
theorem PRep.swap{w w'}{I}(q:∀b o,w'.cell? ⟨b,o,none⟩=w.cell? ⟨b,o,none⟩){v}{p}(h:PRep w I v p):PRep w' I v p:=by
 induction h with
 |int k n=>exact .int k n
 |bool b=>exact .bool b
 |str s=>exact .str s
 |nilp=>exact .nilp
 |fn f=>exact .fn f
 |nilfn=>exact .nilfn
 |nilsl=>exact .nilsl
 |nils=>exact .nils
 |nilm=>exact .nilm
 |sat y h=>exact .sat y h
 |slf a n e h d=>exact .slf a n _ d
 |ifc t v p h d=>exact .ifc t v p d
 |ifa t d_ ps B h d=>exact .ifa t _ _ B (λk c p q u=>d k c p q u)
 |empsl a=>exact .empsl a
 |sl b off cap sz e d_ x m j g l u d =>
  exact .sl b _ _ _ _ _ x m j g (λi r A k p z=>(q _ _).trans (l i r A k p z)) d
theorem T3.swap{w}{I}{D}{x}(hD:w.heap[D]?=some (.deferred x))(y)(h:T3 I w):T3 I (w.putObj D (.deferred y)):=λp a=>by
 have ⟨g,d,t,f,c,b⟩:=h p a;refine⟨g,d,t,f,?_,b⟩;rw[World.putObj_heap_other (λe=>by simp_all)];exact c
theorem VRel.swap{w w'}{I}{ι}{H}(l:∀b o,w'.cell? ⟨b,o,none⟩=w.cell? ⟨b,o,none⟩){v}{a}(h:VRel w I ι H v a):VRel w' I ι H v a:=by
 induction h with
 |any v=>exact .any v
 |pv h=>exact .pv (h.swap l)
 |ref o c f d e=>exact .ref o c f d e
 |pad b off cap sz c f d cs e q s=>exact .pad b _ _ _ (c.swap l) f d _ e (λi r n k p m=>(l _ _).trans (q i r n k p m)) (λi r n k p m=>(s i r n k p m).swap l)
 |osl o c f d e=>exact .osl o c f d e
 |clo g h j=>exact .clo g j
 |bnd g h j=>exact .bnd g j
 |agg g c h j=>exact .agg g c j
 |tup g h j=>exact .tup g j
 |mp o c f d e=>exact .mp o c f d e
 |it o c f d e=>exact .it o c f d e
 |yld o c f d e=>exact .yld o c f d e
 |osc o c f d e=>exact .osc o c f d e
theorem yh {D:Nat} {x:Option (List Deferred)} (d:Rel I ι H w) (c:Step G.I G.ι G.H G.w I ι H w) (f:w.heap[D]?=some (.deferred x)) (hG:G.w.heap.size<=D) (y:Option (List Deferred)) :
    Rel I ι H (w.putObj D (.deferred y))/\Step G.I G.ι G.H G.w I ι H (w.putObj D (.deferred y))/\∀v a,VRel w I ι H v a->VRel (w.putObj D (.deferred y)) I ι H v a:=by
  have g:=(Array.getElem?_eq_some_iff.1 f).1;have t:∀b o,(w.putObj D (.deferred y)).cell? ⟨b,o,none⟩=w.cell? ⟨b,o,none⟩:=λb o=>by
    by_cases e:b=D
    · subst e
      simp[World.cell?,World.putObj_heap_same g,f]
    · exact cell?_of_heap (World.putObj_heap_other e)
  have p:∀v a,VRel w I ι H v a->VRel (w.putObj D (.deferred y)) I ι H v a:=λv a h=>h.swap t;have k:=BG d f;refine⟨⟨λb l=>by rw[World.putObj_size];exact d.imm b l,λj o n=>?_,d.inj,d.glob.swap f y⟩,?_,p⟩
  · exact(d.obj j o n).keep Z (λb m q _=>⟨World.putObj_heap_other (λe=>k (e▸⟨j,o,m,n,q⟩)),λh=>h⟩) (λr _ a _ v h=>p v a h)
  · exact { os := c.os, tape := c.tape, output := c.output
            size:=by rw[World.putObj_size];omega
            froz:=λa s i=>by
              rw[<-c.froz a s i];unfold World.frozen?;rw[World.putObj_heap_other X]
            imm:=c.imm,immNew:=c.immNew,own:=c.own
            keep:=λb l i=>by rw[World.putObj_heap_other X];exact c.keep b l i
            objs:=c.objs}
theorem AH{i:Func}{b:Array Value}{d m:List Deferred}{u:FrameMode}{R:Ending->World->Prop}(d_:u≠.run)(hd:tU d G.w w m)(k:Rel I ι H w)(f:Step G.I G.ι G.H G.w I ι H w)(h:lJ w I ι H E a)
  (z:∀w',Rel I ι H w'->Step G.I G.ι G.H G.w I ι H w'->lJ w' I ι H E a->LeavesInM Fence.wide 0 P i b R d u w'):LeavesInM Fence.wide 0 P i b R m u w:=by
 obtain ⟨n,rfl,o,j⟩:=hd
 induction n generalizing w with
 |nil=>exact z w k f h
 |cons D n x =>
  have ⟨y,p⟩:=j D mem_cons_self;have ⟨F,r,c_⟩:=yh k f p y none;refine⟨d_,.inl ⟨D,_,Z,run_takeDeferred p,?_⟩⟩;refine x F r (λt v s=>let ⟨c,A,K⟩:=h t v s;⟨c,A,c_ _ _ K⟩) (nodup_cons.1 o).2 (λl g=>?_);have ⟨q,B⟩:=j l (mem_cons_of_mem _ g);refine⟨q,?_⟩;rw[World.putObj_heap_other (k:=l) (r:=D) (λe=>(nodup_cons.1 o).1 F_)];exact B
theorem wS{P}{d}{b}{E}{I}{ι}{H}{e}{R}{w}{a}(hd:tU [] G.w w e)(g:Rel I ι H w)(c:Step G.I G.ι G.H G.w I ι H w)(h:lJ w I ι H E a)
  (f:∀w',Rel I ι H w'->Step G.I G.ι G.H G.w I ι H w'->lJ w' I ι H E a->∃v,(results d b).run P w'=.ok v w'/\R (.returned v) w'):LeavesInM Fence.wide 0 P d b R e .returning w :=
 AH H_ hd g c h f
theorem aU.body{g:Func}{c:Code}{Q:AV->aF->Prop}(K:P.funcs[f]?=some g)(G:g.body=some c)(hN:g.ntmps=N)(hlen:args.length<=N)
  (h:gG P H N c (NH P g H Q) (nX args) H):aU P f args H Q:=by
 intro I o w i E hl R;refine callsIn_wide.1 (callsIn_of_wp_marks (F:=Fence.wide) (n:=0) K G T_ ?_);have y:St ⟨I,o,H,w,[]⟩ N (nX args) H {tmps:=i++Array.replicate (g.ntmps - i.size) undef,defers:=[]} w:=by
  refine⟨tU.nil _ _ _,?_,I,o,E,Step.refl _ _ _ _,λt a o_=>?_⟩
  ·grind
  have F:=wY o_;have A:t<i.size:=G_
  have L:i[t]?=some i[t]:=Array.getElem?_eq_getElem A;exact⟨i[t],by grind,R t _ a L F⟩
 refine wpIn_mono (h ⟨I,o,H,w,[]⟩ Z _ w y none (.inl Z)) ?_;rintro e u q ⟨E',j,⟨c_,r,m,r',H'',n,hq⟩,D⟩;have p:LeavesInM Fence.wide 0 P g u.tmps (λe q=>∃r j d b v,e=.returned v/\Q r j/\VRel q d b j v r/\Rel d b j q/\Step I o H w d b j q) u.defers .returning q:=by
  have ⟨d,b,x,l,z⟩:=D.rel;refine wS D.defers x l z ?_;intro d_ s k B;have ⟨v,h1,e_⟩:=m u d_ d b s B;have ⟨I2,ι2,k1,k2,k3⟩:=n ⟨I,o,H,w,[]⟩ Z d b d_ v s k e_
  grind
 rcases c_ with rfl|rfl
 ·exact p
 exact p
section
variable{o:Oper}{Q:AV->aF->Prop}
theorem pF{w}{I}{ι}{a}(k:lJ w I ι H E a):∀ {l:List _} {c},l.mapM (aO E)=some c->l.length=c.length/\∀(i:Nat) (v) (b),(l.map a.eval)[i]?=some v->c[i]?=some b->VRel w I ι H v b:=by
 intro l
 induction l with
 |nil=>simp_all
 |cons x l g =>
  intro c h;simp[mapM_cons,Option.pure_def,Option.bind_eq_bind,Option.bind_eq_some_iff,Option.some.injEq]at h;obtain ⟨v0,j,vs0,n,rfl⟩:=h;have ⟨m,f⟩:=g n;refine⟨by simp[m],?_⟩;intro i v b d e;cases i with
  |zero=>simp at d e;subst d e;exact aJ k j
  |succ i=>exact f i v b (by simpa using d) e
def yT(E:cY):List Operand->Option (List AV)
 | []=>some []
 |x::r=>match aO E x,yT E r with
  |some v,some vs=>some (v::vs)
  |_,_=>none
theorem nP{l}{a}(h:yT E l=some a):l.mapM (aO E)=some a:=by
 induction l generalizing a with
 |nil=>simpa[yT]using h
 |cons x r ih =>
  unfold yT at h
  grind
theorem bH{F}{f}{args}{c}{e}(m:o.op=.call {callee:=.value f,args:=args,argTypes:=c})(p:aO E f=some (.pv (.fn F)))
  (q:∀(args) (w:World),(callFunc F args).run P w=.ok (.enter F args) w) (g:yT E args.toList=some e) (h:aU P F e H Q):ju P N o E H Q:=by
 intro a w I r _ _ n j K QQ hk;have d:=(aJ j p).fn_inv;have ⟨h1,k⟩:=pF j (nP g);unfold Oper.wpW execOp;simp only[m,resolve,d,Deferred.ofValue,Sem.run_bind,Sem.run_pure,Result.andThen_ok,invoke,q,Oper.uponW_enter];refine(h I r w _ n F_ (λi v b g l=>k i v b F_ l)).mono ?_
 grind
theorem Y3{F:FuncId}{f:Operand}{args:Array Operand}{m:Array TypeId}{k c:List AV}(x:o.op=.call {callee:=.value f,args:=args,argTypes:=m})(t:aO E f=some (.clo F c))
  (s:∀(args:Array Value) (w:World),(callFunc F args).run P w=.ok (.enter F args) w) (d:yT E args.toList=some k) (h:aU P F (k++c) H Q):ju P N o E H Q:=by
 intro a w I u _ _ r n K QQ hk;have e:=aJ n t;generalize j:a.eval f=fc at e;have ⟨h1,p⟩:=pF n (nP d);cases e with
 | @clo _ us _ hl q =>
  unfold Oper.wpW execOp;simp only[x,resolve,j,Deferred.ofValue,Sem.run_bind,Sem.run_pure,Result.andThen_ok,invoke,s,Oper.uponW_enter,Array.empty_append];have l:args.size=k.length:=X
  refine(h I u w _ r F_ (λi v b d g=>?_)).mono ?_
  ·by_cases hi:i<args.size
   ·rw[Array.getElem?_append_left F_]at d;rw[getElem?_append_left X]at g;exact p i v b F_ g
   rw[Array.getElem?_append_right G_]at d;rw[getElem?_append_right X]at g;simp only[Array.size_map]at d;rw[l]at d;exact q _ v b d g
  grind
end
theorem aU.frame0{Q}(h:aU P f args [] Q)(d_:∀a∈args,Clo [] a)(E:∀r H',Q r H'->H'=[])(H:aF):aU P f args H (λr H'=>Q r []/\H'=H):=by
 intro I j w c_ n G x;have y:Sub [] H:=λ_ _ h=>by cases h
 have L:dG []:=λ_ _ h=>by cases h
 refine(h I j w c_ (n.restrict y L) G (λi v a g B=>(x i v a g B).restrict y (d_ a (m8 B)))).mono ?_;rintro e z ⟨r,H',s,ι',v,rfl,q,F,A,c⟩;have:=E r H' q;subst this;have d:∀b,¬ NG j [] b:=λb ⟨_,_,_,K,_⟩=>by cases K
 have l:Step I j H w s j H z:=by
  refine⟨c.os,c.tape,c.output,c.size,λa e_ _=>c.froz a e_ (d _),c.imm,λb k=>?_,λb k=>.inl k,λb k _=>c.keep b k (d b),λid o p=>⟨o,p,g_ _,λ_=>⟨Z,Z,λ_=>g_ _⟩⟩⟩;rcases c.immNew b k with g|g|g;all_goals simp_all
 have m:Rel s j H z:=by
  refine⟨A.imm,λid o p=>?_,n.inj,A.glob⟩;refine(n.obj id o p).keep Z (λu cap' e1 t=>⟨c.keep u t (d u),λe3 D=>?_⟩) (λr _ a _ v x=>x.mono n l);rcases c.immNew u D with g|g|g;all_goals grind
 refine⟨r,H,s,j,v,Z,⟨q,Z⟩,?_,m,l⟩;exact F.mono' (λ_ _=>rfl) (λ_ h=>h) (λ_ _ h=>by cases h)
end
section
def B7(w:World)(I:Nat->Prop)(ι:lQ)(H:aF)(c:Array Value)(l:List AV):Prop :=c.size=l.length/\∀(j:Nat) (a:AV),l[j]?=some a->∃u,c[j]?=some u/\u.oneCell'=true/\VRel w I ι H u a
theorem SZ(off):∀(l:List Value) (k:Nat) (cs:Array Value),
  ((l.zipIdx k).foldl (λcs p=>cs.setIfInBounds (off+p.2) p.1) cs).size=cs.size /\
  ∀i,((l.zipIdx k).foldl (λcs p=>cs.setIfInBounds (off+p.2) p.1) cs)[i]?=if off+k<=i/\i<off+k+l.length/\i<cs.size then l[i - (off+k)]? else cs[i]?
 | [],k,cs=>⟨by simp,λi=>by rw[List.zipIdx_nil,List.foldl_nil,a8 (by grind)]⟩
 |v::l,k,cs=>by
  obtain ⟨h1,h2⟩:=SZ off l (k+1) (cs.setIfInBounds (off+k) v);simp only[zipIdx_cons,foldl_cons]
  grind
def TT(l:List AV)(off:Nat)(vs:List AV):List AV:=l.take off++(vs++l.drop (off+vs.length))
theorem B7.fill{c d:Array Value}{l g:List AV}(h:B7 w I ι H c l)(hd:B7 w I ι H d g)(hfit:off+g.length<=l.length):
  B7 w I ι H (d.zipIdx.foldl (λcs (x,j)=>cs.setIfInBounds (off+j) x) c) (TT l off g):=by
 have n:=SZ off d.toList 0 c;have e:d.zipIdx.foldl (λcs (x,j)=>cs.setIfInBounds (off+j) x) c=(d.toList.zipIdx 0).foldl (λcs p=>cs.setIfInBounds (off+p.2) p.1) c:=by
  rw[<-Array.foldl_toList,Array.toList_zipIdx]
 rw[e];have ⟨o,r⟩:=n;refine⟨by rw[o,h.1];simp[TT];omega,λj a f=>?_⟩;rw[r j];simp only[Nat.add_zero,Array.length_toList,hd.1];unfold TT at f;by_cases q:j<off
 ·rw[a8 X];rw[getElem?_append_left G_,getElem?_take,b7 q]at f;exact h.2 j a f
 by_cases c2:j<off+g.length
 ·rw[b7 (by have:=h.1;omega)];have b:min off l.length=off:=X
  rw[getElem?_append_right v6,getElem?_append_left v6]at f;simp only[q9,b]at f;have ⟨u,k,i,m⟩:=hd.2 (j - off) a f;exact⟨u,by simpa using k,i,m⟩
 rw[a8 (by omega)];have b:min off l.length=off:=by omega
 rw[getElem?_append_right v6,getElem?_append_right v6,getElem?_drop]at f;simp only[q9,b]at f;rw[show off+g.length+(j - off - g.length)=j by omega]at f;exact h.2 j a f
theorem B7.of_cells{w}{I}{ι}{H}{v}{a}{l}(d:VRel w I ι H v a)(h:PU a=some l):B7 w I ι H v.cells l :=let ⟨b,_,c⟩:=M6 d h;⟨b,c⟩
def qD(E:cY):List (Nat×Operand)->Option (List (Nat×AV))
 | []=>some []
 |(i,x)::r=>match aO E x,qD E r with
  |some v,some vs=>some ((i,v)::vs)
  |_,_=>none
def DO(place:Nat->Option (Nat×Nat))(l:List AV):List (Nat×AV)->Option (List AV)
 | []=>some l
 |(i,a)::r=>match place i,PU a with
  |some (off,size),some vs=>if vs.length=size/\off+size<=l.length then DO place (TT l off vs) r else none
  |_,_=>none
theorem B7.fills{I}(z:lJ w I ι H E a)(place):∀ {ps} {aps} {c} {l k:List AV},
  qD E ps=some aps->B7 w I ι H c l->DO place l aps=some k->∃c',Instr.fill place c (ps.map λp=>(p.1,a.eval p.2))=some c'/\B7 w I ι H c' k:=by
 intro ps
 induction ps with
 |nil =>
  intro aps c l k e j b;simp[qD]at e;subst e;simp[DO]at b;subst b;exact⟨c,Z,j⟩
 | cons p r q =>
  have ⟨i,x⟩:=p;intro aps c l k e j b;unfold qD at e
  split at e
  ·rename_i v vs s t;cases e;unfold DO at b
   split at b
   ·rename_i m f us u o
    split at b
    ·have h:=B7.of_cells (aJ z s) o;have hsz:(a.eval x).cells.size=f:=by rw[h.1];omega
     have hcl:=j.1;have g:=B7.fill (off:=m) j h X;have ⟨c',y,n⟩:=q t g b;refine⟨c',?_,n⟩;simp only[map_cons,Instr.fill,u];rw[a8 F_];exact y
    grind
   grind
  grind
section
variable{o:Oper}{x y:Operand}
theorem MD{c}{fs}{places}{l0 l:List AV}{aps}(A:o.op=.build T c)(hS:P.underlying T=some (.struct fs))
  (B:∀w,(zeroValue T).run P w=.ok z w) (d_:ZV z v0) (m:PU v0=some l0) (q:∀w,((fs.mapM λf=>do pure (f.offset,<-sizeOf f.type)):Sem _).run P w=.ok places w)
  (t:qD E c.toList=some aps) (G:DO (places[·]?) l0 aps=some l):cN P N o E H (.agg l) H :=
 .of_run λa w I D _ c_=>by
  have h:=B7.of_cells (ZV.rel (w:=w) (I:=I) (ι:=D) (H:=H) d_) m;have ⟨s,h1,g⟩:=B7.fills c_ _ t h G;refine⟨.agg s,?_,.agg g.1 (λj u r=>?_) (λj u b r L=>?_)⟩
  ·have i:Instr.fill (places[·]?) z.cells (c.map λp=>(p.1,a.eval p.2)).toList=some s:=F_
   simp only[execOp,A,Instr.build,Sem.run_bind,B,run_underlying hS,q,Result.andThen_ok,i,Sem.run_pure]
  ·have k:j<l.length:=by rw[<-g.1];grind
   have ⟨v,e,K,_⟩:=g.2 j _ (m_ k);rw[r]at e;cases e;exact K
  have ⟨v,e,_,F⟩:=g.2 j b L;rw[r]at e;cases e;exact F
theorem UQ{c}{n sz}{e}{z}{l0 l}{aps}(d_:o.op=.build T c)(hS:P.underlying T=some (.array n e))
  (D:∀w,(zeroValue T).run P w=.ok z w) (F:ZV z v0) (m:PU v0=some l0) (G:∀w,(sizeOf e).run P w=.ok sz w)
  (v:qD E c.toList=some aps) (K:DO (λi=>some (i*sz,sz)) l0 aps=some l):cN P N o E H (.agg l) H :=
 .of_run λa w I e_ _ L=>by
  have h:=B7.of_cells (ZV.rel (w:=w) (I:=I) (ι:=e_) (H:=H) F) m;have ⟨t,h1,g⟩:=B7.fills L _ v h K;refine⟨.agg t,?_,.agg g.1 (λj u s=>?_) (λj u b s A=>?_)⟩
  ·have r:Instr.fill (λi=>some (i*sz,sz)) z.cells (c.map λp=>(p.1,a.eval p.2)).toList=some t:=F_
   simp only[execOp,d_,Instr.build,Sem.run_bind,D,run_underlying hS,G,Result.andThen_ok,r,Sem.run_pure]
  ·have k:j<l.length:=by rw[<-g.1];grind
   have ⟨B,f,o_,_⟩:=g.2 j _ (m_ k);rw[s]at f;cases f;exact o_
  have ⟨B,f,_,c_⟩:=g.2 j b A;rw[s]at f;cases f;exact c_
def N4:Nat->List (Nat×AV)->Option (List (List AV))
 |_,[]=>some []
 |k,(i,a)::r=>match Nat.beq i k,PU a,N4 (k+1) r with
  |true,some l,some ls=>some (l::ls)
  |_,_,_=>none
theorem W7(he:lJ w I ι H E a)(sz:Nat):∀ {ps:List (Nat×Operand)} {aps:List (Nat×AV)} {rows:List (List AV)} {k:Nat} {c:Array Value},
  qD E ps=some aps->N4 k aps=some rows->(∀r∈rows,r.length=sz)->(k+rows.length)*sz<=c.size ->
  ∃c',Instr.fill (λi=>some (i*sz,sz)) c (ps.map λp=>(p.1,a.eval p.2))=some c'/\c'.size=c.size/\(∀i,i<k*sz->c'[i]?=c[i]?) /\
   ∀(m:Nat) (r:List AV),rows[m]?=some r->∀(j:Nat) (b:AV),r[j]?=some b->∃u,c'[(k+m)*sz+j]?=some u/\u.oneCell'=true/\VRel w I ι H u b:=by
 intro ps
 induction ps with
 |nil =>
  intro aps rows k c s n o_ R;simp[qD]at s;subst s;simp[N4]at n;subst n;exact⟨c,Z,Z,λ_ _=>rfl,H_⟩
 | cons p r v_ =>
  have ⟨i,x⟩:=p;intro aps rows k c s n o_ R;unfold qD at s
  split at s
  ·rename_i v vs u_ e2;cases s;unfold N4 at n
   split at n
   ·rename_i l d_ e3 e4 W;cases n;have K:i=k:=eq_of_beq_eq_true e3;subst K;have A:l.length=sz:=o_ l H_;have z:=B7.of_cells (aJ he u_) e4;have B:(i+(d_.length+1))*sz<=c.size:=by simpa using R
    have hfit:i*sz+sz<=c.size:=by
     have:(i+1)*sz<=(i+(d_.length+1))*sz:=Nat.mul_le_mul_right _ (by omega);rw[Nat.add_mul]at this;omega
    have ⟨Q,F⟩:=SZ (i*sz) (a.eval x).cells.toList 0 c;have e:(a.eval x).cells.zipIdx.foldl (λL (x,j)=>L.setIfInBounds (i*sz+j) x) c=((a.eval x).cells.toList.zipIdx 0).foldl (λL p=>L.setIfInBounds (i*sz+p.2) p.1) c:=by
     rw[<-Array.foldl_toList,Array.toList_zipIdx]
    rw[<-e]at Q F;have hsz:(a.eval x).cells.size=sz:=by rw[z.1,A]
    obtain ⟨c',A_,z_,f_,y_⟩:=v_ (k:=i+1) e2 W (λr h=>o_ r (by simp[h])) (by rw[Q];rw[show i+1+d_.length=i+(d_.length+1)by omega];exact B);refine⟨c',?_,z_.trans Q,λq hq=>?_,λm r h j b c_=>?_⟩
    ·have t:¬ ((a.eval x).cells.size≠sz\/i*sz+(a.eval x).cells.size > c.size):=by omega
     simp only[List.map_cons,Instr.fill];rw[a8 (by simpa using t)];exact A_
    ·have g:q<(i+1)*sz:=by rw[Nat.add_mul];omega
     rw[f_ q g,F q,a8 (by omega)]
    cases m with
    |zero =>
     simp at h;subst h;obtain ⟨u,D,G,e_⟩:=z.2 j b c_;have hj:j<sz:=by rw[<-A];exact(m9.1 c_).1
     refine⟨u,?_,G,e_⟩;have g:(i+0)*sz+j<(i+1)*sz:=by rw[Nat.add_zero,Nat.add_mul i 1,Nat.one_mul];omega
     rw[f_ _ g,F,b7 v6]
     simpa using D
    |succ m =>
     simp at h;obtain ⟨u,D,G,e_⟩:=y_ m r h j b c_;exact⟨u,by rw[show i+(m+1)=i+1+m by omega];exact D,G,e_⟩
   grind
  grind
theorem Rel.newImm{c:Array Value}(g:Rel I ι H w)(l:w'.os=w.os)(e:w'.tape=w.tape)(i:w'.output=w.output)(hw:w'.heap=w.heap.push (.cells c t (0,0))):
  Rel (λb=>I b\/b=w.heap.size) ι H w'/\Step I ι H w (λb=>I b\/b=w.heap.size) ι H w':=by
 have d:∀x,x<w.heap.size->w'.heap[x]?=w.heap[x]?:=λx k=>by grind
 have hsize:w'.heap.size=w.heap.size+1:=F_
 have f:Step I ι H w (λb=>I b\/b=w.heap.size) ι H w':=by
  refine⟨l,e,i,X,λa p _=>?_,λ_ h=>.inl h,λb h=>?_,λ_ h=>.inl h,λx k _=>d x k,λ_ o h=>⟨o,h,g_ _,λ_=>⟨Z,Z,λ_=>g_ _⟩⟩⟩
  ·simp[World.frozen?,d a.block p]
  grind
 refine⟨⟨λx k=>?_,λj o s=>?_,g.inj,f.glob g⟩,f⟩
 ·rcases k with h|h
  ·have:=g.imm x h;omega
  omega
 refine(g.obj j o s).keep Z (λn cap' e1 m=>⟨d n m,λe3 h=>?_⟩) (λr _ a _ v q=>q.mono g f)
 simp_all
theorem WP(n)(a:Array Value):((Array.range n).map (a[· % a.size]!)).size=n:=H_
theorem RX{c:Array (Nat×Operand)}{rows:List (List AV)}(ho:o.op=.buildSlice T n c)(hT:P.underlying T=some (.slice e))(W:∀w,(sizeOf e).run P w=.ok sz w)
  (hz:∀w,(zeroValue e).run P w=.ok z w) (hn:n*sz<=16777216) (e_:0<sz) (hp:qD E c.toList=some aps) (z_:N4 0 aps=some rows) (F:ps.map (·.map AV.pv)=rows) (s:ps.length=n) (L:∀r∈ps,r.length=sz):cN P N o E H (.pv (.sl ps)) H:=by
 intro a w I ι _ _ f he K Q t;subst F;have hf:=λzc:Array Value=>W7 (c:=(Array.range (n*sz)).map (zc[· % zc.size]!)) he sz hp z_ (λr z_=>by
  grind) (by simp_all)
 obtain ⟨v_,k1,k2,_,k4⟩:=hf z.cells;have d_:v_.size=n*sz:=by simp_all
 have A:¬ (n*sz > 2 ^ 24):=X
 have B:∃l,(Instr.buildSlice T n (c.map λp=>(p.1,a.eval p.2))).run P w=.ok (.slice (some ⟨w.heap.size,0,none⟩) n n) (w.alloc (.cells l e))/\l.size=n*sz /\
   ∀(m:Nat) (r:List AV),(ps.map (·.map AV.pv))[m]?=some r->∀(j:Nat) (b:AV),r[j]?=some b->∃u,l[m*sz+j]?=some u/\u.oneCell'=true/\VRel w I ι H u b:=by
  by_cases f_:n*sz=0
  ·have ⟨c0,h,o_,_,q4⟩:=hf #[];refine⟨c0,?_,by rw[o_,WP],λm r R j b c_=>by have:=q4 m r R j b c_;simpa using this⟩;rw[<-Array.toList_map]at h;simp only[f_]at h;simp only[Instr.buildSlice,Sem.run_bind,run_underlying hT,Result.andThen_ok,W,Sem.run_ite,A,if_false,f_,if_true,Sem.run_pure,h,newRow,run_newObj];rfl
  refine⟨v_,?_,d_,λm r R j b c_=>by have:=k4 m r R j b c_;simpa using this⟩;rw[<-Array.toList_map]at k1;simp only[Instr.buildSlice,Sem.run_bind,run_underlying hT,Result.andThen_ok,W,Sem.run_ite,A,if_false,f_,hz,Sem.run_pure,k1,newRow,run_newObj];rfl
 have ⟨g,g1,g2,u_⟩:=B;have ⟨m1,y_⟩:=Rel.newImm (c:=g) (t:=e) (w':=w.alloc (.cells g e)) f Z Z Z Z;unfold Oper.wpW execOp;simp only[ho,Sem.run_bind,g1,Result.andThen_ok,Sem.run_pure];refine t _ _ _ ι _ _ ⟨Z,Z⟩ (.pv ?_) m1 y_;have q:∀j,(w.alloc (.cells g e)).cell? ⟨w.heap.size,j,none⟩=g[j]?:=λj=>World.cell?_alloc_new w g e j;have:=PRep.sl (w:=w.alloc (.cells g e)) (I:=λb=>I b\/b=w.heap.size) w.heap.size 0 n sz ps (λi k=>(g[i*sz+k]?).getD undef) (.inr Z) e_ L X
  (λi r G k p t=>by
   have ⟨u,h,o_,A_⟩:=u_ i (r.map .pv) (by simp[G]) k (.pv p) (by simp[t]);rw[q,r9,h];rfl)
  (λi r G k p t=>by
   have ⟨u,h,o_,A_⟩:=u_ i (r.map .pv) (by simp[G]) k (.pv p) (by simp[t]);rw[h];exact(A_.mono f y_).pv_inv)
 rw[s]at this;exact this
theorem HY{c:Array (Nat×Operand)}{rows:List (List AV)}(v:o.op=.buildSlice T n c)(c_:P.underlying T=some (.slice e))(e_:∀w,(sizeOf e).run P w=.ok sz w)
  (hz:∀w,(zeroValue e).run P w=.ok z w) (hn:n*sz<=16777216) (g:0<sz) (y_:qD E c.toList=some aps) (v_:N4 0 aps=some rows) (f:rows.length=n) (s:∀r∈rows,r.length=sz) (B:H.get id=none) :
  cN P N o E H (.osl id 0 0 n) ((id,⟨0,sz,e,rows⟩)::H):=by
 intro a w I A_ _ _ k he K Q hk;have G:=λR:Array Value=>W7 (c:=(Array.range (n*sz)).map (R[· % R.size]!)) he sz y_ v_ s F_;have q:¬ (n*sz > 2 ^ 24):=X
 have i:∃h,(Instr.buildSlice T n (c.map λp=>(p.1,a.eval p.2))).run P w=.ok (.slice (some ⟨w.heap.size,0,none⟩) n n) (w.alloc (.cells h e))/\h.size=n*sz /\
   ∀(m:Nat) (r:List AV),rows[m]?=some r->∀(j:Nat) (b:AV),r[j]?=some b->∃u,h[m*sz+j]?=some u/\u.oneCell'=true/\VRel w I A_ H u b:=by
  by_cases D:n*sz=0
  ·obtain ⟨c0,A,q2,_,q4⟩:=G #[];refine⟨c0,?_,by simp_all,λm r F j b d_=>by have:=q4 m r F j b d_;simpa using this⟩;rw[<-Array.toList_map]at A;simp only[D]at A;simp only[Instr.buildSlice,Sem.run_bind,run_underlying c_,Result.andThen_ok,e_,Sem.run_ite,q,if_false,D,if_true,Sem.run_pure,A,newRow,run_newObj];rfl
  have ⟨c',L,z_,_,u_⟩:=G z.cells;refine⟨c',?_,by rw[z_,WP],λm r F j b d_=>by have:=u_ m r F j b d_;simpa using this⟩;rw[<-Array.toList_map]at L;simp only[Instr.buildSlice,Sem.run_bind,run_underlying c_,Result.andThen_ok,e_,Sem.run_ite,q,if_false,D,hz,Sem.run_pure,L,newRow,run_newObj];rfl
 have ⟨o_,f_,g2,g3⟩:=i;have t:n<=maxLen:=by
  have:n<=n*sz:=Nat.le_mul_of_pos_right _ g;simp only[maxLen];omega
 have ⟨W,m2⟩:=Rel.place (H':=(id,⟨0,sz,e,rows⟩)::H) (id:=id) (cap:=n) (ob':=⟨0,sz,e,rows⟩) (cs':=o_) (w':=w.alloc (.cells o_ e)) k Z Z Z Z (λo v=>by rw[B]at v;cases v) g g2 (by simp[f]) t s g3
  (get_cons_same _ _ _) (λj hj=>get_cons_other _ _ hj)
 unfold Oper.wpW execOp;simp only[v,Sem.run_bind,f_,Result.andThen_ok,Sem.run_pure];exact hk _ _ I _ _ _ ⟨Z,Z⟩ (.osl ⟨0,sz,e,rows⟩ (get_cons_same _ _ _) (g_ _) Z λ_=>⟨g,by simp[f],.inl ⟨w.heap.size,n,0,H_,H_,λ_=>by simp⟩⟩) W m2
end
end
section
def jb(P:Program)(e:TypeId)(sz bytes:Nat):Prop:=∃i z,P.info? e=some i/\i.zero=some z/\i.size=sz/\i.bytes=bytes/\z.cells.size=sz/\0<sz
theorem CP{f}{m j}{u:α}(h:((List.range m).map f)[j]?=some u):j<m/\u=f j:=G_
theorem VU(f:Nat->α){m j}(hj:j<m):((List.range m).map f)[j]?=some (f j):=F_
def tP(w:World)(I:Nat->Prop)(ι:lQ)(H:aF)(sz:Nat)(l:List Value)(rows:List (List AV)):Prop :=∀(i:Nat) (r:List AV),rows[i]?=some r->∀(k:Nat) (a:AV),r[k]?=some a->∃u,l[i*sz+k]?=some u/\u.oneCell'=true/\VRel w I ι H u a
theorem tP.app{l1 l2 l3:List Value}{b d:List (List AV)}(m:tP w I ι H sz l1 b)(hl1:l1.length=b.length*sz)(n:tP w I ι H sz l2 d):
  tP w I ι H sz (l1++(l2++l3)) (b++d):=by
 intro i r e k a l;by_cases c:i<b.length
 ·rw[getElem?_append_left c]at e;have ⟨u,f,h,g⟩:=m i r e k a l;have j:=(m9.1 f).1;exact⟨u,G_,h,g⟩
 rw[getElem?_append_right X]at e;have ⟨u,f,h,g⟩:=n _ r e k a l;have j:=(m9.1 f).1;have hm:(i - b.length)*sz+b.length*sz=i*sz:=by rw[<-Nat.add_mul];congr 1;omega
 refine⟨u,?_,h,g⟩
 grind
def Src(w:World)(I:Nat->Prop)(ι:lQ)(H:aF)(sz:Nat)(v:Value)(rows:List (List AV)):Prop :=(∃a c news,v=.slice (some a) rows.length c/\news.length=rows.length*sz/\(∀j u,news[j]?=some u->w.cell? (a.add j)=some u)/\(∀u∈news,u.oneCell'=true)/\tP w I ι H sz news rows) \/
 (v=.slice none 0 0/\rows=[])
theorem Lq(h:j<n*sz):j / sz<n:=(div_lt_iff_lt_mul (by
 grind)).2 h
theorem ZN(h:k<sz):(i*sz+k) / sz=i:=by rw[Nat.add_comm,add_mul_div_right _ _ X,div_eq_of_lt h];omega
theorem GE(h:k<sz):(i*sz+k) % sz=k:=by rw[Nat.add_comm,add_mul_mod_self_right,mod_eq_of_lt h]
theorem Fk(h:VRel w I ι H v (.pv (.sl ps)))(hsz:0<sz)(hl:∀r∈ps,r.length=sz):Src w I ι H sz v (ps.map (·.map .pv)):=by
 have L:=h.pv_inv;cases L with
 |nilsl=>exact .inr ⟨Z,Z⟩
 |empsl a=>exact .inl ⟨a,0,[],Z,H_,H_,H_,by intro i r o;grind⟩
 | sl b l B c _ N hI z n hcap e_ s =>
  by_cases A:ps=[]
  ·subst A;exact .inl ⟨⟨b,l,none⟩,B,[],Z,H_,H_,H_,by intro i r o;grind⟩
  have P:c=sz:=by
   have ⟨r,rs,e⟩:=exists_cons_of_ne_nil A
   simp_all
  subst P
  let f:Nat->Value:=λj=>N (j / c) (j % c)
  have m:∀j,j<ps.length*c->∃r p,ps[j / c]?=some r/\r[j % c]?=some p:=by
   intro j y;have t:=Lq y;have o_:ps[j / c]∈ps:=getElem_mem t;have d_:j % c<ps[j / c].length:=by rw[n _ o_];exact mod_lt _ z
   exact⟨_,_,m_ t,m_ d_⟩
  refine .inl ⟨⟨b,l,none⟩,B,(List.range (ps.length*c)).map f,H_,H_,?_,?_,?_⟩
  ·intro j u K;obtain ⟨y,rfl⟩:=CP K;have ⟨r,p,t,d_⟩:=m j y;rw[Addr.add_lit];have:=e_ _ r t _ p d_;rw[show l+j / c*c+j % c=l+j by have:=div_add_mod' j c;omega]at this;exact this
  ·intro u K;have ⟨j,F⟩:=s8.1 K;obtain ⟨y,rfl⟩:=CP F;have ⟨r,p,t,d_⟩:=m j y;exact(s _ r t _ p d_).oneCell
  intro i r o k a x;rw[r7]at o;cases e:ps[i]? with
  |none=>rw[e]at o;cases o
  | some q =>
   rw[e]at o;cases o;rw[r7]at x;cases D:q[k]? with
   |none=>rw[D]at x;cases x
   | some p =>
    rw[D]at x;cases x;have c_:i<ps.length:=(m9.1 e).1;have g:k<c:=by rw[<-n q (m8 e)];exact(m9.1 D).1
    have E:i*c+k<ps.length*c:=by
     have:(i+1)*c<=ps.length*c:=mul_le_mul_right _ c_;rw[Nat.add_mul]at this;omega
    refine⟨f (i*c+k),VU f E,?_,?_⟩
    ·simp only[f,ZN g,GE g];exact(s i q e k p D).oneCell
    simp only[f,ZN g,GE g];exact .pv (s i q e k p D)
theorem sk(A_:Rel I ι H w)(h:VRel w I ι H v (.osl id g off len))(c_:H.get id=some ob)(o_:ob.g=g)(A:ob.sz=sz):
  Src w I ι H sz v ((ob.rows.drop off).take len):=by
 obtain ⟨hle,⟨b,x,W,G,K,F⟩|⟨G,K,F,u_⟩⟩:=jK h c_ o_
 ·obtain ⟨y_,L,⟨b',cap',y,q,R,e3,e4,e5,e5',Q⟩|⟨q,_⟩⟩:=(A_.obj id ob c_).cells (qA h c_ o_)
  ·rw[G]at q;cases q;subst A;have l:((ob.rows.drop off).take len).length=len:=G_
   have hget:∀j,j<len*ob.sz->∃u,y[off*ob.sz+j]?=some u/\u.oneCell'=true/\∀a r,ob.rows[off+j / ob.sz]?=some r->r[j % ob.sz]?=some a->VRel w I ι H u a:=by
    intro j m;have h1':=Lq m;have c:off+j / ob.sz<ob.rows.length:=X
    have v_:=getElem_mem c;have s:j % ob.sz<ob.rows[off+j / ob.sz].length:=by rw[L _ v_];exact mod_lt _ y_
    have ⟨u,N,T,f_⟩:=Q _ _ (m_ c) _ _ (m_ s);refine⟨u,?_,T,λa r o e_=>?_⟩
    ·rw[Nat.add_mul,show off*ob.sz+j / ob.sz*ob.sz+j % ob.sz=off*ob.sz+j by have:=div_add_mod' j ob.sz;omega]at N;exact N
    rw[m_ c]at o;cases o;rw[m_ s]at e_;cases e_;exact f_
   let f:Nat->Value:=λj=>(y[off*ob.sz+j]?).getD undef
   have z:∀j (m:j<len*ob.sz),y[off*ob.sz+j]?=some (f j)/\(f j).oneCell'=true/\∀a r,ob.rows[off+j / ob.sz]?=some r->r[j % ob.sz]?=some a->VRel w I ι H (f j) a:=by
    grind
   by_cases B:len=0
   ·subst B;have:(ob.rows.drop off).take 0=[]:=H_
    rw[this];exact .inl ⟨⟨b,W,none⟩,x - off,[],F_,H_,H_,H_,by intro i r n;grind⟩
   have d_:=F X;subst d_;refine .inl ⟨⟨b,off*ob.sz,none⟩,x - off,(List.range (len*ob.sz)).map f,by rw[K,l],by simp[l],?_,?_,?_⟩
   ·intro j u E;obtain ⟨m,rfl⟩:=CP E;rw[Addr.add_lit,cell_of_row w b _ y ob.ty (0,0) R];exact(z j m).1
   ·intro u E;have ⟨j,D⟩:=s8.1 E;obtain ⟨m,rfl⟩:=CP D;exact(z j m).2.1
   intro i r n k a P;have p:i<len:=by rw[<-l];exact(m9.1 n).1
   rw[getElem?_take,b7 p,getElem?_drop]at n;have t:k<ob.sz:=by rw[<-L r (m8 n)];exact(m9.1 P).1
   have c:i*ob.sz+k<len*ob.sz:=by
    have:(i+1)*ob.sz<=len*ob.sz:=mul_le_mul_right _ p;rw[Nat.add_mul]at this;omega
   refine⟨f (i*ob.sz+k),VU f c,(z _ c).2.1,(z _ c).2.2 a r ?_ ?_⟩
   ·rw[ZN t];exact n
   rw[GE t];exact P
  rw[G]at q;cases q
 subst F u_;exact .inr ⟨K,H_⟩
section
variable{o:Oper}{x y:Operand}
theorem zK{i}(a:P.underlying t=some (.slice e))(hi:P.info? e=some i)(b)(n c:Nat)(d:n<=c):
  (Builtin.append_ #[t,t] ty #[.slice b n c,.slice none 0 0]).run P w=.ok (.slice b n c) w:=by
 cases b<;>simp[Builtin.append_,run_underlying a,sizeOf,typeInfo,hi,Builtin.lenOf,d,Builtin.firstCells,storeCells]
theorem ng{d:List (List AV)}(ho:o.op=.call {callee:=.builtin .append,args:=#[x,y],argTypes:=#[T,T]})(hT:P.underlying T=some (.slice e))(hinf:jb P e sz bytes)
  (hx:aO E x=some (.osl id g 0 n)) (A_:H.get id=some ob) (hg:ob.g=g) (hosz:ob.sz=sz) (hty:ob.ty=e) (hn:ob.rows.length=n)
  (hsrc:∀(a:Act) (w:World) (I:Nat->Prop) (ι:lQ),Rel I ι H w->lJ w I ι H E a->Src w I ι H sz (a.eval y) d) (hrl2:∀r∈d,r.length=sz) (hm:d.length=m) (t:(n+m)*bytes<=140737488355328) (hmax:n+m<=9223372036854775807)
  (hH2:H.set id ⟨g+1,sz,e,ob.rows++d⟩=H2):cN P N o E H (.osl id (g+1) 0 (n+m)) H2:=by
 intro a w I ι _ _ hr he K Q hk;obtain ⟨i,z,hi,hz,l,hby,hzs,hsz0⟩:=hinf;subst hg hosz hty hn hm hH2;have y_:ob.rows.length+d.length<=maxLen:=by simp only[maxLen];omega
 have W:(H.set id ⟨ob.g+1,ob.sz,ob.ty,ob.rows++d⟩).get id=some ⟨ob.g+1,ob.sz,ob.ty,ob.rows++d⟩:=aF.get_set_same _ _ _;have h2:∀j,j≠id->(H.set id ⟨ob.g+1,ob.sz,ob.ty,ob.rows++d⟩).get j=H.get j:=λj hj=>aF.get_set_other _ _ hj;have p:0<ob.sz:=qA (aJ he hx) A_ Z;have p2:=((hr.obj id ob A_).cells p).2.1;have hrl:∀r∈ob.rows++d,r.length=ob.sz:=λr hr'=>by
  grind
 have u_:∀(v':Value) (w':World) (e_:lQ),(Builtin.append_ #[T,T] o.type #[a.eval x,a.eval y]).run P w=.ok v' w'->VRel w' I e_ (H.set id ⟨ob.g+1,ob.sz,ob.ty,ob.rows++d⟩) v' (.osl id (ob.g+1) 0 (ob.rows.length+d.length)) ->
   Rel I e_ (H.set id ⟨ob.g+1,ob.sz,ob.ty,ob.rows++d⟩) w'->Step I ι H w I e_ (H.set id ⟨ob.g+1,ob.sz,ob.ty,ob.rows++d⟩) w'->o.wpW P a w K Q:=by
  intro v' w' e_ h k1 o_ R;unfold Oper.wpW execOp;simp only[ho,resolve,invoke,builtin,Sem.run_bind,Sem.run_pure,Result.andThen_ok,List.map_toArray,List.map_cons,List.map_nil,h];exact hk v' w' I e_ _ _ ⟨Z,Z⟩ k1 o_ R
 have hs:=hsrc a w I ι hr he;have hvx:=aJ he hx;have ⟨_,hcase⟩:=jK hvx A_ Z;rcases hcase with⟨b,q,oo,c1,c2,c3⟩|⟨c1,c2,_,c4⟩
 ·obtain ⟨p1,_,⟨b',cap',c_,e1,e2,e3,e4,e5,e5',e6⟩|⟨e1,_⟩⟩:=(hr.obj id ob A_).cells p
  ·rw [c1] at e1;cases e1;have hoo:oo=0:=by omega
   subst hoo;rw[Nat.sub_zero]at c2;have olds:tP w I ι H ob.sz (c_.toList.take (ob.rows.length*ob.sz)) ob.rows:=by
    intro v_ r s k a' D;obtain ⟨u,q1,q2,q3⟩:=e6 v_ r s k a' D;have hk2:k<ob.sz:=by grind
    have hi2:v_<ob.rows.length:=(m9.1 s).1;have hlt:v_*ob.sz+k<ob.rows.length*ob.sz:=by
     have:(v_+1)*ob.sz<=ob.rows.length*ob.sz:=Nat.mul_le_mul_right _ hi2;rw[Nat.add_mul]at this;omega
    exact⟨u,by grind,q2,q3⟩
   have hle:ob.rows.length*ob.sz<=c_.size:=by rw[e4];exact Nat.mul_le_mul_right _ e5
   have A:(c_.toList.take (ob.rows.length*ob.sz)).length=ob.rows.length*ob.sz:=by simp;omega
   rcases hs with⟨ad,c,f,L,G,s3,s4,s5⟩|⟨L,G⟩
   ·by_cases F:ob.rows.length+d.length<=q
    ·-- there is room
     have hfit:ob.rows.length*i.size+f.length<=c_.size:=by
      rw[G,l,e4,<-Nat.add_mul];exact Nat.mul_le_mul_right _ F
     have h:=run_append_room (P:=P) w T o.type ob.ty i hT hi b ob.rows.length q c_ e2 ad d.length c f (by rw[l];exact G) s3 s4 F hfit;rw[l]at h;obtain ⟨o_,R⟩:=Rel.update (H':=H.set id ⟨ob.g+1,ob.sz,ob.ty,ob.rows++d⟩) (ob':=⟨ob.g+1,ob.sz,ob.ty,ob.rows++d⟩)
      (cs':=(c_.toList.take (ob.rows.length*ob.sz)++f++c_.toList.drop (ob.rows.length*ob.sz+f.length)).toArray) hr A_ c1 e2 (by simp) Z Z (λe=>by simp at e) (by
       rw[l]at hfit;simp only[size_toArray,j_,q9,q6,Array.length_toList];omega) (by simpa using F) hrl (λv_ r s k a' D=>by
        have:=tP.app (l3:=c_.toList.drop (ob.rows.length*ob.sz+f.length)) olds A s5 v_ r s k a' D
        simpa[List.append_assoc]using this) W h2
     exact u_ _ _ ι (by rw[c2,L];exact h) (.osl _ W (g_ _) Z λ_=>⟨p,H_,.inl ⟨b,q,0,c1,H_,λ_=>by simp⟩⟩) o_ R
    have holds:∀j v,(c_.toList.take (ob.rows.length*ob.sz))[j]?=some v->w.cell? ((⟨b,0,none⟩:Addr).add j)=some v:=by
     intro j v hv;rw[Addr.add_lit,r9,cell_of_row w b _ c_ ob.ty (0,0) e2];rw[getElem?_take]at hv
     split at hv
     ·simpa using hv
     cases hv
    have h:=run_append_grow (P:=P) w T o.type ob.ty i z hT hi hz ⟨b,0,none⟩ ob.rows.length q _ (by rw[l];exact A) holds ad d.length c f (by rw[l];exact G) s3 (by omega) (by omega) (growslice_fits (by omega) (by rw[hby];exact t));have hge:=grownCap_ge w (ob.rows.length+d.length) q ob.ty;have hcm:=grownCap_le_maxLen w (ob.rows.length+d.length) q ob.ty y_;obtain ⟨o_,R⟩:=Rel.place (H':=H.set id ⟨ob.g+1,ob.sz,ob.ty,ob.rows++d⟩) (id:=id) (cap:=grownCap w (ob.rows.length+d.length) q ob.ty) (ob':=⟨ob.g+1,ob.sz,ob.ty,ob.rows++d⟩)
     (cs':=(c_.toList.take (ob.rows.length*ob.sz)).toArray++f.toArray++Builtin.zeroCells z.cells (grownCap w (ob.rows.length+d.length) q ob.ty - (ob.rows.length+d.length)))
     (w':=w.drew.alloc (.cells ((c_.toList.take (ob.rows.length*ob.sz)).toArray++f.toArray++Builtin.zeroCells z.cells (grownCap w (ob.rows.length+d.length) q ob.ty - (ob.rows.length+d.length))) ob.ty)) hr Z Z Z Z
     (λo' f_=>by rw[A_]at f_;cases f_;simp) p1 (by
      simp only[Array.size_append,List.size_toArray,size_zeroCells,hzs,A,G,<-Nat.add_mul];congr 1;omega) (by simpa using hge) hcm hrl (λv_ r s k a' D=>by
       have ⟨u,q1,q2,q3⟩:=tP.app (l3:=(Builtin.zeroCells z.cells (grownCap w (ob.rows.length+d.length) q ob.ty - (ob.rows.length+d.length))).toList) olds A s5 v_ r s k a' D;refine⟨u,?_,q2,q3⟩;rw[<-Array.getElem?_toList]
       simpa[List.append_assoc]using q1) W h2
    exact u_ _ _ _ (by rw[c2,L];exact h) (.osl _ W (g_ _) Z λ_=>⟨p,H_,.inl ⟨w.heap.size,_,0,by simp;rfl,H_,λ_=>by simp⟩⟩) o_ R
   subst G;have h:=zK (P:=P) (ty:=o.type) (w:=w) hT hi (some ⟨b,0,none⟩) ob.rows.length q e5;have ⟨o_,R⟩:=Rel.tick (H':=H.set id ⟨ob.g+1,ob.sz,ob.ty,ob.rows++[]⟩) (ob':=⟨ob.g+1,ob.sz,ob.ty,ob.rows++[]⟩) hr A_ H_ Z Z H_ W h2;exact u_ _ _ ι (by rw[c2,L];exact h) (.osl _ W (g_ _) Z λ_=>⟨p,H_,.inl ⟨b,q,0,c1,H_,λ_=>by simp⟩⟩) o_ R
  rw[c1]at e1;cases e1
 have d_:ob.rows=[]:=List.eq_nil_of_length_eq_zero c4;have z_:d=[]->o.wpW P a w K Q:=by
  intro h0;subst h0;have h:(Builtin.append_ #[T,T] o.type #[a.eval x,a.eval y]).run P w=.ok (.slice none 0 0) w:=by
   rcases hs with⟨ad,c,f,L,G,s3,s4,s5⟩|⟨L,G⟩
   ·rw[c2,L];simp[Builtin.append_,run_underlying hT,sizeOf,typeInfo,hi,Builtin.lenOf,Builtin.firstCells,loadCells,loadCellsFrom]
   rw[c2,L];exact zK (P:=P) (ty:=o.type) (w:=w) hT hi none 0 0 (g_ _)
  have ⟨o_,R⟩:=Rel.tick (H':=H.set id ⟨ob.g+1,ob.sz,ob.ty,ob.rows++[]⟩) (ob':=⟨ob.g+1,ob.sz,ob.ty,ob.rows++[]⟩) hr A_ H_ Z Z H_ W h2;exact u_ _ _ ι h (.osl _ W (g_ _) Z λ_=>⟨p,H_,.inr ⟨c1,Z,Z,by simp[d_]⟩⟩) o_ R
 by_cases h0:d=[]
 ·exact z_ h0
 have p:0<d.length:=List.length_pos_iff.2 h0;rcases hs with⟨ad,c,f,L,G,s3,s4,s5⟩|⟨L,G⟩
 ·rw [d_] at t y_ hmax;simp only [length_nil,r9] at t y_ hmax;have h:=run_append_nil (P:=P) w T o.type ob.ty i z hT hi hz ad d.length c f (by rw [l];exact G) s3 p X (by rw [hby];omega);have hge:=grownCap_ge w d.length 0 ob.ty;have hcm:=grownCap_le_maxLen w d.length 0 ob.ty y_;have ⟨o_,R⟩:=Rel.place (H':=H.set id ⟨ob.g+1,ob.sz,ob.ty,ob.rows++d⟩) (id:=id) (cap:=grownCap w d.length 0 ob.ty) (ob':=⟨ob.g+1,ob.sz,ob.ty,ob.rows++d⟩)
   (cs':=f.toArray++Builtin.zeroCells z.cells (grownCap w d.length 0 ob.ty - d.length))
   (w':=w.drew.alloc (.cells (f.toArray++Builtin.zeroCells z.cells (grownCap w d.length 0 ob.ty - d.length)) ob.ty)) hr Z Z Z Z
   (λo' f_=>by rw[A_]at f_;cases f_;simp) hsz0 (by
    simp only[Array.size_append,List.size_toArray,size_zeroCells,hzs,G,<-Nat.add_mul];congr 1;omega) (by simpa[d_]using hge) hcm hrl (λv_ r s k a' D=>by
     rw[d_]at s;simp only[List.nil_append]at s;obtain ⟨u,q1,q2,q3⟩:=s5 v_ r s k a' D;have hlt:=(m9.1 q1).1;refine⟨u,?_,q2,q3⟩;rw[Array.getElem?_append_left (by simpa using hlt)]
     simpa using q1) W h2
  refine u_ _ _ _ (by rw[c2,L];exact h) (.osl _ W (g_ _) Z λ_=>⟨(qA (aJ he hx) A_ rfl:0<ob.sz),H_,.inl ⟨w.heap.size,_,0,by simp;rfl,by simp[d_],λ_=>by simp⟩⟩) o_ R
 exact absurd G h0
theorem UR{e}{ps}{H2}(d_:o.op=.call {callee:=.builtin .append,args:=#[x,y],argTypes:=#[T,T]})(D:P.underlying T=some (.slice e))(d:jb P e sz bytes)
  (p:aO E x=some (.osl id g 0 n)) (t:H.get id=some ob) (c_:ob.g=g) (c:ob.sz=sz) (h:ob.ty=e) (u:ob.rows.length=n)
  (q:aO E y=some (.pv (.sl ps))) (j:∀r∈ps,r.length=sz) (hm:ps.length=m) (b:(n+m)*bytes<=140737488355328) (f:n+m<=9223372036854775807)
  (k:H.set id ⟨g+1,sz,e,ob.rows++ps.map (·.map AV.pv)⟩=H2):cN P N o E H (.osl id (g+1) 0 (n+m)) H2:=by
 have ⟨i,z,B,K,F,A,s,l⟩:=d;exact ng d_ D ⟨i,z,B,K,F,A,s,l⟩ p t c_ c h u (λa w I ι v G=>Fk (aJ G q) l j) (λr v=>by
  grind) F_ b f k
theorem UJ{c:Nat}{W k2:IntKind}{p b:Int}{d:List AV}(v_:o.op=.makeSlice T x y)(hT:P.underlying T=some (.slice e))(t:jb P e sz bytes)(hz:∀w,(zeroValue e).run P w=.ok z w)(hv:ZV z v0)(c_:PU v0=some d)(hrow:d.length=sz)
  (hx:aO E x=some (.pv (.int W p))) (hy:aO E y=some (.pv (.int k2 b))) (h1:0<=p) (h2:p<=b) (hl:p.toNat=l) (hc:b.toNat=c) (hb:bytes*c<=281474976710656) (B:b<=9223372036854775807) (hid:H.get id=none) :
  cN P N o E H (.osl id 0 0 l) ((id,⟨0,sz,e,List.replicate l d⟩)::H):=by
 intro a w I ι _ _ hr he K Q hk;have ⟨i,q,y_,A,f,L,e_,m⟩:=t;have D:q=z:=by
  have:=hz w;simp[zeroValue,typeInfo,y_,A]at this;exact this
 subst D hl hc;have e1:=(aJ he hx).int_inv;have e2:=(aJ he hy).int_inv;have G:(i.bytes:Int)*b<=281474976710656:=by
  have h:=hb;rw[<-L]at h;have u_:((i.bytes*b.toNat:Nat):Int)<=281474976710656:=by omega
  rw[Int.natCast_mul]at u_
  rwa [Int.toNat_of_nonneg X]at u_
 have d_:=run_make (P:=P) w T e i q hT y_ A W k2 p b h1 h2 G B;have R:=B7.of_cells (ZV.rel (w:=w) (I:=I) (ι:=ι) (H:=H) hv) c_;have ⟨f_,k3⟩:=Rel.place (H':=(id,⟨0,sz,e,List.replicate p.toNat d⟩)::H) (id:=id) (cap:=b.toNat) (ob':=⟨0,sz,e,List.replicate p.toNat d⟩) (cs':=madeCells q.cells (b.toNat*i.size))
  (w':=w.alloc (.cells (madeCells q.cells (b.toNat*i.size)) e)) hr Z Z Z Z (λo v_=>by simp_all) m (by rw[size_madeCells,f]) (by grind) (by simp only[maxLen];omega)
  (λr hr'=>by simp_all)
  (λz_ r n k a' F=>by
   rw[getElem?_replicate]at n
   split at n
   ·cases n;rename_i hlt;have o_:k<sz:=G_
    have ⟨u,A_,q2,q3⟩:=R.2 k a' F;refine⟨u,?_,q2,q3⟩;have s:z_*sz+k<b.toNat*sz:=by
     have:(z_+1)*sz<=b.toNat*sz:=mul_le_mul_right _ X;rw[Nat.add_mul]at this;omega
    have v:k<q.cells.size:=X
    rw[Array.getElem?_eq_getElem v]at A_;cases A_;simp only[madeCells,Array.getElem?_map,f];rw[Array.getElem?_range];simp only[s,if_true,Option.map_some,e_,GE o_];rw[getElem!_pos q.cells k v]
   simp_all) (get_cons_same _ _ _) (λj hj=>get_cons_other _ _ hj)
 unfold Oper.wpW execOp;simp only[v_,e1,e2,Sem.run_bind,d_,Result.andThen_ok,Sem.run_pure];exact hk _ _ I _ _ _ ⟨Z,Z⟩ (.osl _ (get_cons_same _ _ _) (g_ _) Z λ_=>⟨m,H_,.inl ⟨w.heap.size,b.toNat,0,H_,H_,λ_=>by simp⟩⟩) f_ k3
theorem Rel.congr{I}{ι}{H H'}{w}(f:Rel I ι H w)(h:∀j,H'.get j=H.get j):Rel I ι H' w/\Step I ι H w I ι H' w:=by
 have e:Step I ι H w I _ _ w:=⟨Z,Z,Z,g_ _,λ_ _ _=>rfl,λ_ h=>h,λ_ h=>.inl h,λb ⟨j,o,c,i,k⟩=>.inl ⟨j,o,c,(h j).symm.trans i,k⟩,λ_ _ _=>rfl,
  λj o g=>⟨o,(h j).trans g,g_ _,λ_=>⟨Z,Z,λ_=>g_ _⟩⟩⟩
 refine⟨⟨f.imm,λj o g=>?_,λj j' o o' b c c' i k=>f.inj j _ o _ b c _ ((h j).symm.trans i) ((h _).symm.trans k),e.glob f⟩,e⟩;exact(f.obj j o ((h j).symm.trans g)).keep Z (λ_ _ _ _=>⟨Z,λh=>h⟩) (λr _ a _ v l=>l.mono f e)
def fO(s:List UInt8):List (List AV):=s.map λb=>[.pv (.int .u8 b.toNat)]
theorem m3{p:Prop}(h:p:=by simp;rfl):p:=h
theorem UP{bs:List UInt8}{r:B_}(v:o.op=.convert f_ T x)(hS:P.underlying f_=some (.slice e))(i:P.underlying e=some (.int .u8))(B:P.underlying T=some .string)
  (d_:aO E x=some (.osl id g off len)) (e_:H.get id=some ob) (v_:ob.g=g) (q:ob.sz=1) (F:(ob.rows.drop off).take len=fO bs) (c_:(⟨bs.toArray⟩:B_)=r):cN P N o E H (.pv (.str r)) H :=
 .of_run λa w I ι l u_=>by
  have s:=aJ u_ d_;have h:=sk l s e_ v_ q;rw[F]at h;subst c_;refine⟨.string ⟨bs.toArray⟩,?_,.pv (.str _)⟩;rcases h with⟨p,c,d,m,t,D,s4,G⟩|⟨m,t⟩
  ·have hnews:d=bs.map λb=>Value.int .u8 b.toNat:=by
    apply List.ext_getElem?;intro j;by_cases z:j<bs.length
    ·obtain ⟨u,A,q2,R⟩:=G j [.pv (.int .u8 (bs[j]'z).toNat)] (by simp[fO,m_ z]) 0 _ m3;rw[Nat.mul_one,Nat.add_zero]at A;rw[A,R.int_inv]
     simp_all
    rw[getElem?_eq_none (by rw[t];simp[fO];omega),getElem?_eq_none G_]
   have o_:(loadCells p (fO bs).length).run P w=.ok ((bs.map λb=>(b.toNat:Int)).map (Value.int .u8)).toArray w:=by
    have L:(bs.map λb=>(b.toNat:Int)).map (Value.int .u8)=d:=by simp_all
    have Q:(fO bs).length=d.length:=X
    rw[L,Q];exact run_loadCells_list (P:=P) w p d D
   simp only[execOp,v,m,Sem.run_bind];rw[run_convert_bytes_string w f_ T e _ _ c hS i B,run_bytesToString w p _ c _ o_,foldl_push_bytes];have K:(bs.map λb=>(b.toNat:Int)).map (λn=>UInt8.ofNat n.toNat)=bs:=by
    rw[List.map_map]
    conv=>rhs;rw[<-List.map_id bs]
    refine List.map_congr_left λb _=>?_;simp
   rw[K];simp[ByteArray.empty,ByteArray.emptyWithCapacity];rfl
  have:bs=[]:=by simpa[fO]using t
  subst this;simp only[execOp,v,m,Sem.run_bind];rw[run_convert_bytes_string w f_ T e _ _ 0 hS i B];simp[Conv.bytesToString];rfl
end
end
section
structure Rec where
 v:AV
 R:Option (List Nat)
 W:aF
def OE:List Nat->Nat->Bool
 | [],_=>false
 |x::r,t=>cond (Nat.beq x t) true (OE r t)
theorem KJ{l}{t}:OE l t=true↔t∈l:=by
 induction l with
 |nil=>simp[OE]
 | cons x r a =>
  cases e:Nat.beq x t with
  |true =>
   have:=eq_of_beq_eq_true e;simp[OE,e,this]
  |false =>
   have:x≠t:=λh=>by simp_all
   simp[OE,e,a,Ne.symm this]
def tO:Option (List Nat)->Nat->Bool
 |none,_=>true
 |some l,t=>OE l t
def dz:List Operand->List Nat
 | []=>[]
 |.tmp t::r=>t::dz r
 |_::r=>dz r
def iX(ops:List Oper)(o:Oper):List Nat :=match o.guard with
 |none=>dz o.op.operands.toList
 |some (j,_)=>match jM ops j with
  |some t=>t::dz o.op.operands.toList
  |none=>dz o.op.operands.toList
def restr(E:cY):List Nat->cY
 | []=>[]
 |t::r=>match E.get t with
  |some v=>(t,v)::restr E r
  |none=>restr E r
theorem VP{E}{l}:∀p∈restr E l,E.get p.1=some p.2/\p.1∈l:=by
 induction l with
 |nil=>simp[restr]
 |cons t r ih =>
  intro p a;unfold restr at a
  grind
inductive DStep(P:Program)(N:Nat)(ops:List Oper)(o:Oper)(E:cY)(H:aF)(r:Rec):Prop
 |plain (hg:o.guard=none) (h:∀H1:aF,(∀id,tO r.R id=true->H1.get id=H.get id)->cN P N o (restr E (iX ops o)) H1 r.v (r.W++H1))
 | on (j:Nat) (want:Bool) (t:Tmp) (b:Bool) (hg:o.guard=some (j,want)) (hj:jM ops j=some t) (hb:E.get t=some (.pv (.bool b))) (hw:b=want)
   (h:∀H1:aF,(∀id,tO r.R id=true->H1.get id=H.get id)->cN P N o (restr E (iX ops o)) H1 r.v (r.W++H1))
 |off (j:Nat) (want:Bool) (t:Tmp) (x:AV) (hg:o.guard=some (j,want)) (hj:jM ops j=some t) (hb:E.get t=some x) (hw:eg want x=true) (hv:r.v=.tup []) (hW:r.W=[])
inductive DChain(P:Program)(N:Nat)(ops:List Oper):List Oper->cY->aF->List Rec->cY->aF->Prop
 |nil {E:cY} {H:aF}:DChain P N ops [] E H [] E H
 | cons {o:Oper} {rest:List Oper} {E E':cY} {H H':aF} {r:Rec} {rs:List Rec} (h:DStep P N ops o E H r) (hd:jB N o.dst=true) (hr:DChain P N ops rest (nD E o.dst r.v) (r.W++H) rs E' H') :
   DChain P N ops (o::rest) E H (r::rs) E' H'
structure Ent2 where
 o:Oper
 r:Rec
def OT(E:cY)(l:List Ent2)(f_:Nat->Bool):Nat->Nat->Option AV
 |0,t=>E.get t
 |k+1,t=>match l[k]? with
  |some x=>if f_ k=true/\x.o.dst=some t then some x.r.v else OT E l f_ k t
  |none=>OT E l f_ k t
def NL(H:aF)(l:List Ent2)(f_:Nat->Bool):Nat->Nat->Option Ob
 |0,id=>H.get id
 |k+1,id=>match l[k]? with
  |some x=>if f_ k=true/\(x.r.W.get id).isSome=true then x.r.W.get id else NL H l f_ k id
  |none=>NL H l f_ k id
theorem PJ(W H)(id):aF.get (W++H) id=match W.get id with|some o=>some o|none=>H.get id:=by
 induction W with
 |nil=>rfl
 |cons x r a =>
  have ⟨i,o⟩:=x;cases e:Nat.beq i id with
  |true=>simp[aF.get,e]
  |false=>simpa[aF.get,e]using a
def hkeys(W:aF):List Nat:=W.map (·.1)
def qL(ops:List Oper)(x y:Ent2):Bool :=(match x.o.dst with
   |some d=>OE (iX ops y.o) d||(match y.o.dst with|some e=>Nat.beq e d|none=>false)
   |none=>false) ||
  (match y.o.dst with
   |some d=>OE (iX ops x.o) d
   |none=>false) ||
  (hkeys x.r.W).any (λi=>tO y.r.R i||OE (hkeys y.r.W) i) ||
  (hkeys y.r.W).any (λi=>tO x.r.R i)
def vF(acc:List Nat):List Edge->Nat
 | []=>0
 |e::r=>if Region.binds .any e then((1 <<< e.on) ||| acc.getD e.on 0) ||| vF acc r else vF acc r
def Vu:List Oper->List Nat->List Nat
 | [],acc=>acc
 |o::r,acc=>Vu r (acc++[vF acc o.after.toList])
def PA(ops:List Oper)(bef:List Nat):Nat->List Ent2->List Ent2->Bool
 |_,_,[]=>true
 |j,prev,y::r=>(prev.zipIdx.all λ(x,i)=>!qL ops x y||(bef.getD j 0).testBit i)&&PA ops bef (j+1) (prev++[y]) r
def PB:Nat->List Oper->Bool
 |_,[]=>true
 |j,o::r=>(o.after.toList.all λe=>!Region.binds .any e||Nat.blt e.on j)&&PB (j+1) r
def R0(ops:List Oper)(rs:List Rec):Bool :=PB 0 ops&&PA ops (Vu ops []) 0 [] (List.zipWith Ent2.mk ops rs)
def Wb(ops:List Oper)(f_:Nat->Bool):Prop:=∀j o,ops[j]?=some o->f_ j=true->∀e∈o.after.toList,Region.binds .any e=true->f_ e.on=true
def Pre(ops:List Oper)(i j:Nat):Prop:=∀f_,Wb ops f_->∀o,ops[j]?=some o->(∀e∈o.after.toList,Region.binds .any e=true->f_ e.on=true)->f_ i=true
theorem UZ{acc:List Nat}(c:∀j,j<acc.length->∀i,(acc.getD j 0).testBit i=true->Pre ops i j)(hlen:acc.length<=ops.length):
  ∀(l:List Edge) (i:Nat),(vF acc l).testBit i=true->∀f_,Wb ops f_->(∀e∈l,Region.binds .any e=true->f_ e.on=true)->f_ i=true:=by
 intro l
 induction l with
 |nil=>intro i h;simp[vF]at h
 | cons e r p =>
  intro i h f_ k g;unfold vF at h
  split at h
  ·rename_i o;rw[testBit_or,testBit_or,Bool.or_eq_true,Bool.or_eq_true]at h;rcases h with(h|h)|h
   ·have:e.on=i:=by
     rw[testBit_shiftLeft]at h;simp only[k_,j0]at h;have q:=h.2;rw[testBit_one_eq_true_iff_self_eq_zero]at q;omega
    rw[<-this];exact g e H_ o
   ·by_cases s:e.on<acc.length
    ·have f:e.on<ops.length:=X
     have m:=g e H_ o;exact c e.on s i h f_ k _ (m_ f) (λd a n=>k e.on _ (m_ f) m d a n)
    simp[List.getD,getElem?_eq_none (show acc.length<=e.on by omega)]at h
   exact p i h f_ k (λd a=>g d (by simp[a]))
  exact p i h f_ k (λd a=>g d (by simp[a]))
theorem Bn:∀(rest b:List Oper) (acc:List Nat),ops=b++rest->acc.length=b.length->(∀j,j<acc.length->∀i,(acc.getD j 0).testBit i=true->Pre ops i j) ->
  ∀j i,((Vu rest acc).getD j 0).testBit i=true->Pre ops i j:=by
 intro rest
 induction rest with
 |nil =>
  intro b acc k f g j i c;by_cases h:j<acc.length
  ·exact g j h i c
  simp[Vu,List.getD,getElem?_eq_none (show acc.length<=j by omega)]at c
 | cons o r q =>
  intro b acc k f g;refine q (b++[o]) (acc++[vF acc o.after.toList]) F_ (by simp[f]) ?_;intro j h i c;by_cases e:j<acc.length
  ·have m:(acc.getD j 0).testBit i=true:=by simpa[List.getD,getElem?_append_left e]using c
   exact g j e i m
  have n:j=acc.length:=by simp at h;omega
  subst n;have c:(vF acc o.after.toList).testBit i=true:=by simpa[List.getD]using c
  intro f_ p s d l;have:s=o:=by
   rw[k,getElem?_append_right X,f]at d;simp at d;exact d.symm
  subst this;exact UZ g (by rw[k,f];simp) _ i c f_ p l
theorem Y7{c:List Nat}:∀(rest a:List Ent2),PA ops c a.length a rest=true->∀i j,i<j->a.length<=j->∀x y,(a++rest)[i]?=some x->(a++rest)[j]?=some y->qL ops x y=true->(c.getD j 0).testBit i=true:=by
 intro rest
 induction rest with
 |nil =>
  simp_all
 | cons z r q =>
  intro a h i j b hj x y f d k;simp only[PA,k_]at h;by_cases e:j=a.length
  ·subst e;have m:y=z:=by
    simp at d;exact d.symm
   subst m;have g:=by rw[getElem?_append_left b]at f;exact f
   have o:(x,i)∈a.zipIdx:=by rw[mem_zipIdx_iff_getElem?];exact g
   have:=all_eq_true.1 h.1 _ o
   simpa[k]using this
  have l:=h.2;have p:a.length+1=(a++[z]).length:=H_
  rw[p]at l;have n:a++z::r=(a++[z])++r:=H_
  rw[n]at f d;exact q (a++[z]) l i j b v6 x y f d k
theorem Y9:∀(l) (k),PB k l=true->∀j o,l[j]?=some o->∀e∈o.after.toList,Region.binds .any e=true->e.on<k+j:=by
 intro l
 induction l with
 |nil=>simp_all
 | cons x r ih =>
  intro k h j o a e b c;simp only[PB,k_]at h;cases j with
  |zero =>
   simp at a;subst a;have:=all_eq_true.1 h.1 e b
   simpa[c]using this
  |succ j =>
   grind
section
theorem FR {l} {f_} {t}:∀ (n k),k<=n->(∀ j x,l[j]?=some x->x.o.dst=some t->(j < k->f_ j=true)/\(k<=j->j < n->f_ j=false))->OT E l f_ n t=OT E l (λ_=>true) k t:=by
  intro n
  induction n with
  | zero => intro k a h; have : k = 0 := by omega
            subst this;rfl
  | succ n ih =>
    intro k a h;by_cases e:k=n+1
    · subst e
      rw[OT,OT]
      grind
    · rw[OT]
      grind
theorem FQ {l} {f_} {id}:∀ (n k),k<=n->(∀ j x,l[j]?=some x->(x.r.W.get id).isSome=true->(j < k->f_ j=true)/\(k<=j->j < n->f_ j=false))->NL H l f_ n id=NL H l (λ_=>true) k id:=by
  intro n
  induction n with
  | zero => intro k a h; have : k = 0 := by omega
            subst this;rfl
  | succ n ih =>
    intro k a h;by_cases e:k=n+1
    · subst e
      rw[NL,NL]
      grind
    · rw[NL]
      grind
end
theorem cN.restr{P}{N}{o}{E b}{H1 H2}{l}{v}(h:cN P N o (restr E l) H1 v H2)(k:∀t,t∈l->b.get t=E.get t):cN P N o b H1 v H2:=by intro a w I ι j i f g K Q e;refine h a w I _ j i f (λt v d=>?_) K Q e;have c:=VP _ (iL d);exact g t v ((k t c.2).trans c.1)
theorem cL.get{G0}{E E'}{H H'}(g:∀t,E'.get t=E.get t)(h:∀j,H'.get j=H.get j):cL G0 E H E' H':=by intro G hG N a w d;have ⟨I,n,e,b,k⟩:=d.rel;have ⟨i,f⟩:=e.congr h;refine⟨d.defers,d.size,I,n,i,b.trans f,λt v o=>?_⟩;have ⟨c,m,l⟩:=k t v ((g t).symm.trans o);exact⟨c,m,l.mono e f⟩
theorem OJ{ops}{x y:Ent2}(h:x.o.dst=some d)(a:d∈iX ops y.o):qL ops x y=true:=by simp[qL,h,KJ.2 a]
theorem HE{ops}{x y:Ent2}(h:x.o.dst=some d)(a:y.o.dst=some d):qL ops x y=true:=by simp[qL,h,a,pI]
theorem OI{ops}{x y:Ent2}(h:y.o.dst=some d)(a:d∈iX ops x.o):qL ops x y=true:=by simp[qL,h,KJ.2 a]
theorem zQ{W}{id}(h:(W.get id).isSome=true):id∈hkeys W:=by have ⟨o,a⟩:=Option.isSome_iff_exists.1 h;exact mem_map.2 ⟨_,dY a,Z⟩
theorem Bf{ops}{x y}{id}(h:(x.r.W.get id).isSome=true)(h':tO y.r.R id=true):qL ops x y=true:=by have:(hkeys _).any (λi=>tO y.r.R i||OE (hkeys y.r.W) i)=true:=any_eq_true.2 ⟨id,zQ h,G_⟩;simp[qL,this]
theorem XN{ops}{x y}{id}(h:(x.r.W.get id).isSome=true)(b:(y.r.W.get id).isSome=true):qL ops x y=true:=by have:(hkeys _).any (λi=>tO y.r.R i||OE (hkeys y.r.W) i)=true:=any_eq_true.2 ⟨id,zQ h,by simp[KJ.2 (zQ b)]⟩;simp[qL,this]
theorem Bg{ops}{x y}{id}(h:(y.r.W.get id).isSome=true)(a:tO x.r.R id=true):qL ops x y=true:=by have:=any_eq_true.2 ⟨id,zQ h,a⟩;simp[qL,this]
theorem cN.any_heap{P}{N}{o}{E}{H H1}{v}(h:cN P N o E H v H)(g:∀j,H1.get j=H.get j):cN P N o E H1 v H1:=by intro a w I ι s q f k K Q l;have ⟨m,i⟩:=f.congr (λj=>(g j).symm);refine h a w I _ s q m (λt v y=>let ⟨c,p,u⟩:=k t v y;⟨c,p,u.mono f i⟩) K Q ?_;rintro c w' I' ι' r H' ⟨rfl,rfl⟩ n b d;have ⟨x,e⟩:=b.congr g;exact l c _ _ _ _ _ ⟨Z,Z⟩ (n.mono b e) x ((i.trans d).trans e)
theorem DStep.q{P}{N}{ops}{o}{E}{H}{v}(a:o.guard=none)(h:cN P N o (restr E (iX ops o)) H v H):DStep P N ops o E H ⟨v,none,[]⟩ :=.plain a λH1 b=>h.any_heap λj=>b j Z
theorem DStep.qon{P}{N}{ops}{o}{E}{H}{v}{j}{a}{t}{b}(f:o.guard=some (j,a))(d:jM ops j=some t)(c:E.get t=some (.pv (.bool b)))(g:b=a)(h:cN P N o (restr E (iX ops o)) H v H):DStep P N ops o E H ⟨v,none,[]⟩ :=.on j _ t b f d c g λH1 e=>h.any_heap λj=>e j Z
theorem DStep.qoff{P}{N}{ops}{o}{E}{H}{j}{a}{t}{x}(d:o.guard=some (j,a))(c:jM ops j=some t)(b:E.get t=some x)(e:eg a x=true):DStep P N ops o E H ⟨.tup [],some [],[]⟩ :=.off j _ t x d c b e Z Z
abbrev ao:=List PanicEntry
def D4(P:Program)(N:Nat)(o:Oper)(E:cY)(H:aF)(R:AV->aF->Prop)(PP:ao->aF->Prop):Prop :=∀(a:Act) (w:World) (I:Nat->Prop) (ι:lQ),a.tmps.size=N->Rel I ι H w->lJ w I ι H E a->∀(K:Act->World->Prop) (Q:Exit->Act->World->Prop),
  (∀c w' I' ι' r H',R r H'->VRel w' I' ι' H' c r->Rel I' ι' H' w'->Step I ι H w I' ι' H' w'->K (a.put o.dst c) w') ->
  (∀ch w' I' ι' H',PP ch H'->Rel I' ι' H' w'->Step I ι H w I' ι' H' w'->Q (.panic ch) a w')->o.wpW P a w K Q
section
variable{ops:Array Oper}{o:Oper}{R:AV->aF->Prop}{PP:ao->aF->Prop}
theorem St.opP{G}{a}{w}(e:St G N E H a w)(hd:jB N o.dst=true)(h:D4 P N o E H R PP){K}{Q}
  (u:∀r H' a' w',R r H'->St G N (nD E o.dst r) H' a' w'->K a' w') (m:∀j H' w',PP j H'->St G N E H' a w'->Q (.panic j) a w') {ro} (z:ro=none\/o.noDefer=true):o.wpIn (RF ro) 0 P a w K Q:=by
 refine Oper.wpW_in z ?_;obtain ⟨I,ι,g,i,l⟩:=e.rel;refine h a w I _ e.size g l K Q ?_ ?_
 ·intro c w' k d r H' s x f b;refine u r _ _ _ s ⟨?_,?_,k,d,f,i.trans b,lJ.put g b l x (by rw[e.size];exact hd)⟩
  ·rw[mA];exact e.defers.step g b
  have:=e.size;cases o.dst<;>simpa[Act.put]using this
 intro j w' k d H' p f b;exact m _ _ _ p ⟨e.defers.step g b,e.size,k,d,f,i.trans b,λt v n=>let ⟨c,q,y⟩:=l t v n;⟨c,q,y.mono g b⟩⟩
end
def mN(o o':Ob):Prop:=o'.g=o.g/\o'.sz=o.sz/\o'.ty=o.ty/\o'.rows.map List.length=o.rows.map List.length
theorem mN.rfl{o}:mN o o:=⟨_root_.rfl,_root_.rfl,_root_.rfl,_root_.rfl⟩
def Shp(ids:List Nat)(H H1:aF):Prop:=∀id∈ids,∀o,H.get id=some o->∃o',H1.get id=some o'/\mN o o'
def uw:List Nat->List Nat->Bool
 | [],[]=>true
 |a::r,b::q=>Nat.beq a b&&uw r q
 |_,_=>false
theorem ey:∀ {a b},uw a b=true->a=b
 | [],[],_=>rfl
 |a::r,b::q,h=>by
  rw[uw,k_]at h;rw[Nat.eq_of_beq_eq_true h.1,ey h.2]
 | [],_::_,h=>by cases h
 |_::_,[],h=>by cases h
def aBp(o o':Ob):Bool:=Nat.beq o'.g o.g&&(Nat.beq o'.sz o.sz&&(Nat.beq o'.ty o.ty&&uw (o'.rows.map List.length) (o.rows.map List.length)))
def Qp(ids:List Nat)(H:aF)(rs:List Rec):Bool:=rs.all λr=>ids.all λid=>match r.W.get id with
 |none=>true
 |some o'=>match H.get id with
  |none=>true
  |some o=>aBp o o'
theorem yi{b}{H}{e}(h:Qp b H e=true):∀r∈e,∀id∈b,∀o',r.W.get id=some o'->∀o,H.get id=some o->mN o o':=by intro r f id d o' c o g;have a:=all_eq_true.1 (all_eq_true.1 h r f) _ d;simp only[c,g,aBp,k_]at a;exact⟨eq_of_beq_eq_true a.1,eq_of_beq_eq_true a.2.1,eq_of_beq_eq_true a.2.2.1,ey a.2.2.2⟩
theorem X9{H}{l}{f_}{id}{o}(b:H.get id=some o)(h:∀y∈l,∀o',y.r.W.get id=some o'->mN o o'):∀n,∃o',NL H l f_ n id=some o'/\mN o o'
 |0=>⟨o,b,.rfl⟩
 | n+1=>by
  rw[NL];cases e:l[n]? with
  |none=>exact X9 b h n
  | some y =>
   simp
   split
   ·next c =>
    obtain ⟨o',ho'⟩:=Option.isSome_iff_exists.1 c.2
    grind
   exact X9 b h n
def vb(ks:List Nat)(rs:List Rec):Bool:=rs.all λr=>ks.all λid=>match r.W.get id with
 |none=>true
 |some _=>false
theorem oj{ks}{c}(h:vb ks c=true):∀id∈ks,∀r∈c,r.W.get id=none:=by
 intro id a r d;have b:=all_eq_true.1 (all_eq_true.1 h r d) _ a;cases e:r.W.get _ with
 |none=>rfl
 |some o=>rw[e]at b;cases b
theorem QH{H}{l}{f_}{id}(h:∀y∈l,y.r.W.get id=none):∀n,NL H l f_ n id=H.get id
 |0=>rfl
 | n+1=>by
  rw[NL];cases e:l[n]? with
  |none=>exact QH h n
  |some y =>
   simp;rw[a8 (λhc=>by grind)];exact QH h n
def vc(ts:List Nat)(ops:Array Oper):Bool:=ops.toList.all λo=>match o.dst with
 |none=>true
 |some d=>!OE ts d
theorem om{a}{ops}(h:vc a ops=true):∀t∈a,∀o∈ops.toList,o.dst≠some t:=by intro t d o b c;have:=all_eq_true.1 h o b;rw[c]at this;simp[r8]at this;rw[KJ.2 d]at this;cases this
theorem QI{E}{l:List Ent2}{f_}{t:Nat}(h:∀y∈l,y.o.dst≠some t):∀n,OT E l f_ n t=E.get t
 |0=>rfl
 | n+1=>by
  rw[OT];cases e:l[n]? with
  |none=>exact QI h n
  |some y =>
   simp;rw[a8 (λb=>h y (m8 e) b.2)];exact QI h n
theorem D4.restr{P}{N}{o}{E c}{H1}{l}{R}{PP}(h:D4 P N o (restr E l) H1 R PP)(j:∀t,t∈l->c.get t=E.get t):D4 P N o c H1 R PP:=by intro a w I ι i f g K Q e b;refine h a w I _ i f (λt v d=>?_) K Q e b;have b:=VP _ (iL d);exact g t v ((j t b.2).trans b.1)
inductive DStepP(P:Program)(N:Nat)(ops:List Oper)(PP:ao->aF->aF->Prop)(o:Oper)(E:cY)(H:aF)(r:Rec)(F:Prop):Prop
 |old (hF:F) (h:DStep P N ops o E H r)
 |pan (hg:o.guard=none) (h:∀H1:aF,(∀id,tO r.R id=true->H1.get id=H.get id)->D4 P N o (restr E (iX ops o)) H1 (λv H'=>v=r.v/\H'=r.W++H1/\F) (λch H'=>PP ch H1 H'))
def ag:List Prop->Prop
 | []=>True
 |F::r=>F/\ag r
theorem Z8:∀ {l},(∀(k:Nat) (F),l[k]?=some F->F)->ag l
 | [],_=>trivial
 |F::r,h=>⟨h 0 F Z,Z8 λk G a=>h (k+1) G a⟩
inductive DChainP(P:Program)(N:Nat)(ops:List Oper)(PP:ao->aF->aF->Prop):List Oper->cY->aF->List Rec->List Prop->cY->aF->Prop
 |nil {E:cY} {H:aF}:DChainP P N ops PP [] E H [] [] E H
 | cons {o:Oper} {rest:List Oper} {E E':cY} {H H':aF} {r:Rec} {rs:List Rec} {F:Prop} {Fs:List Prop} (h:DStepP P N ops PP o E H r F) (hd:jB N o.dst=true) (hr:DChainP P N ops PP rest (nD E o.dst r.v) (r.W++H) rs Fs E' H') :
   DChainP P N ops PP (o::rest) E H (r::rs) (F::Fs) E' H'
section
variable{PP:ao->aF->aF->Prop}
theorem DChainP.spec{a:List Rec}{g:List Prop}(h:DChainP P N ops PP rest E H a g E' H'):(a.length=rest.length/\g.length=rest.length) /\
  (∀k x,(List.zipWith Ent2.mk rest a)[k]?=some x->jB N x.o.dst=true/\∃F,g[k]?=some F/\∃i c,(∀t,i.get t=OT E (List.zipWith Ent2.mk rest a) (λ_=>true) k t)/\(∀id,c.get id=NL H (List.zipWith Ent2.mk rest a) (λ_=>true) k id)/\DStepP P N ops PP x.o i c x.r F) /\
  (∀t,E'.get t=OT E (List.zipWith Ent2.mk rest a) (λ_=>true) rest.length t)/\(∀id,H'.get id=NL H (List.zipWith Ent2.mk rest a) (λ_=>true) rest.length id):=by
 induction h with
 |nil=>exact⟨⟨Z,Z⟩,H_,λt=>rfl,λid=>rfl⟩
 | @cons o rest E E' H H' r a F g u w hr b =>
  have ⟨⟨v,m⟩,z,h3,h4⟩:=b;have j:∀(l:List Ent2) k t,OT (nD E o.dst r.v) l (λ_=>true) k t=OT E (⟨o,r⟩::l) (λ_=>true) (k+1) t:=by
   intro l k t
   induction k with
   | zero =>
    simp only[OT,getElem?_cons_zero];cases hdst:o.dst with
    |none=>rfl
    |some d =>
     simp only[nD];by_cases e:d=t
     ·subst e;simp[cY.get_cons_same]
     rw[cY.get_cons_other _ _ e];simp[e]
   |succ k b =>
    rw[OT,OT];simp only[getElem?_cons_succ];cases l[k]? with
    |none=>exact b
    |some x=>simp only[b]
  have p:∀(l:List Ent2) k id,NL (r.W++H) l (λ_=>true) k id=NL H (⟨o,r⟩::l) (λ_=>true) (k+1) id:=by
   intro l k id
   induction k with
   |zero =>
    simp only[NL,getElem?_cons_zero,PJ];cases hw:r.W.get id<;>simp
   |succ k b =>
    rw[NL,NL];simp only[getElem?_cons_succ];cases l[k]? with
    |none=>exact b
    |some x=>simp only[b]
  refine⟨⟨by simp[v],by simp[m]⟩,?_,?_,?_⟩
  ·intro k x f;cases k with
   |zero =>
    simp at f;subst f;exact⟨w,F,Z,E,H,λt=>rfl,λid=>rfl,u⟩
   |succ k =>
    simp at f;have ⟨B,q,n,i,c,A,s,y⟩:=z k x (by simpa using f);exact⟨B,q,n,i,c,λt=>(A t).trans (j _ k t),λid=>(s id).trans (p _ k id),y⟩
  all_goals simp_all
end
theorem XQ{PP:ao->aF->aF->Prop}{ops:Array Oper}{rs:List Rec}(hm:P.follows .mixedOrders=true){Fs:List Prop}(hc:DChainP P N ops.toList PP ops.toList E H rs Fs E' H')(hok:R0 ops.toList rs=true)(ids ks:List Nat)(hW:Qp ids H rs=true)(hKs:vb ks rs=true)(ts:List Nat)(hT:vc ts ops=true)(hP:∀ch A_ H1 H2,(∀t∈ts,A_.get t=E.get t)->Shp ids H H1->(∀id∈ks,H1.get id=H.get id)->PP ch H1 H2->Q (.panic ch) A_ H2)
  (hK:ag Fs->Q .normal E' H'):gG P G0 N (.region id ops true) Q E H:=by
 intro G hG a w hs ro hro;have hnd0:ro=none\/ops.toList.all Oper.noDefer=true:=hro;refine wpIn_region_any hm ?_;have ⟨⟨hlen,hlenF⟩,hst,hE',hH'⟩:=hc.spec;have ⟨l,hl⟩:∃l,l=List.zipWith Ent2.mk ops.toList rs:=X_;rw[<-hl]at hst hE' hH';simp only[R0,k_,<-hl]at hok;have ⟨hok1,hok2⟩:=hok;have hll:l.length=ops.size:=F_
 have hlo:∀(i:Nat) (x:Ent2),l[i]?=some x->ops.toList[i]?=some x.o:=by
  grind
 have hedge:=Y9 ops.toList 0 hok1;have hbef:∀(i j:Nat) (x y:Ent2),i<j->l[i]?=some x->l[j]?=some y->qL ops.toList x y=true->Pre ops.toList i j:=λi j x y hij hx y_ hcl =>
  Bn ops.toList [] [] Z Z H_ j i (Y7 l [] hok2 i j hij (l7 _) x y hx y_ hcl)
 have main:∀(L:Nat) (f:Array Bool) (a:Act) (w:World) (A_:cY) (H1:aF),f.size=ops.size->((List.range ops.size).filter λi=>!f.getD i true).length<=L ->
   Wb ops.toList (λi=>f.getD i false)->(∀k,f.getD k false=true->∀F,Fs[k]?=some F->F)->St G N A_ H1 a w->(∀t,A_.get t=OT E l (λi=>f.getD i false) ops.size t)->(∀j,H1.get j=NL H l (λi=>f.getD i false) ops.size j) ->
   wpAnyIn (RF ro) 0 P .any ops (λe a w=>∃E H,Q e E H/\St G N E H a w) L f a w:=by
  intro L
  induction L with
  | zero =>
   intro f a w A_ H1 hsz hcnt e_ hfac p hE1 hH1;have c_:∀i,i<ops.size->f.getD i false=true:=by
    intro i hi;have hnil:=List.eq_nil_of_length_eq_zero (Nat.le_zero.1 hcnt);have:=List.filter_eq_nil_iff.1 hnil i (List.mem_range.2 hi);have R:i<f.size:=by omega
    simp[Array.getD,R]at this |-;exact this
   refine⟨?_,E',H',hK (Z8 λk F hF=>hfac k (c_ k (by have:=(m9.1 hF).1;rw[hlenF]at this;simpa using this)) F hF),?_⟩
   ·unfold Region.ready;refine List.filter_eq_nil_iff.2 λi hi=>?_;have:=c_ i (List.mem_range.1 hi);have R:i<f.size:=by have:=List.mem_range.1 hi;omega
    simp[Array.getD,R]at this;simp[Array.getD,R,this]
   refine cL.get (G0:=G0) (λt=>?_) (λj=>?_) G hG N a w p
   ·rw[hE' t,hE1 t,Array.length_toList];exact(FR (E:=E) ops.size ops.size (g_ _) (λj x q _=>⟨λz=>c_ j z,λh1 h2=>by omega⟩)).symm
   rw[hH' j,hH1 j,Array.length_toList];exact(FQ (H:=H) ops.size ops.size (g_ _) (λi x hi _=>⟨λz=>c_ i z,λh1 h2=>by omega⟩)).symm
  | succ L ih =>
   intro f a w A_ H1 hsz hcnt e_ hfac p hE1 hH1;refine⟨λhnil=>?_,λi hi=>?_⟩
   ·-- nothing is left
    have c_:∀i,i<ops.size->f.getD i false=true:=by
     intro i
     induction i using Nat.strongRecOn with
     | _ i ihi =>
      intro hi;refine Classical.byContradiction λhno=>?_;have R:i<f.size:=by omega
      have hno':f.getD i true=false:=by
       simp[Array.getD,R]at hno |-;exact hno
      have z:i<ops.toList.length:=by simpa using hi
      have hr:i∈Region.ready .any ops f:=by
       unfold Region.ready;refine List.mem_filter.2 ⟨List.mem_range.2 hi,?_⟩;have ho:ops[i]?=some ops[i]:=Array.getElem?_eq_getElem hi;simp only[hno',Bool.not_false,Bool.true_and,ho,Option.map_some,Option.getD_some];rw[Array.all_eq_true'];intro e he;cases hb:Region.binds .any e with
       |false=>simp
       |true =>
        have hon:=hedge i ops[i] (by simp[ho]) e (by simpa using he) hb;simp only[Bool.not_true,Bool.false_or];exact ihi e.on (by omega) (by omega)
      rw[hnil]at hr;cases hr
    refine⟨E',H',hK (Z8 λk F hF=>hfac k (c_ k (by have:=(m9.1 hF).1;rw[hlenF]at this;simpa using this)) F hF),?_⟩;refine cL.get (G0:=G0) (λt=>?_) (λj=>?_) G hG N a w p
    ·rw[hE' t,hE1 t,Array.length_toList];exact(FR (E:=E) ops.size ops.size (g_ _) (λj x q _=>⟨λz=>c_ j z,λh1 h2=>by omega⟩)).symm
    rw[hH' j,hH1 j,Array.length_toList];exact(FQ (H:=H) ops.size ops.size (g_ _) (λi x hi _=>⟨λz=>c_ i z,λh1 h2=>by omega⟩)).symm
   have hi1:=List.mem_filter.1 hi;have hilt:i<ops.size:=List.mem_range.1 hi1.1;have R:i<f.size:=by omega
   have ho:ops[i]?=some ops[i]:=Array.getElem?_eq_getElem hilt;have hi2:=hi1.2;simp only[ho,Option.map_some,Option.getD_some,k_]at hi2;have ⟨hnl,hpreds⟩:=hi2;have hnl':f.getD i false=false:=by
    simp[Array.getD,R]at hnl |-;exact hnl
   have hpre:∀e∈(ops[i]).after.toList,Region.binds .any e=true->f.getD e.on false=true:=by
    intro e he hb;have:=(Array.all_eq_true'.1 hpreds) e (by simpa using he)
    simpa[hb]using this
   have hil:i<l.length:=by omega
   obtain ⟨x,hx⟩:∃x,l[i]?=some x:=⟨_,m_ hil⟩;have hxo:x.o=ops[i]:=by
    have:=hlo i x hx;simp[ho]at this;exact this.symm
   have ⟨W,F,hFi,Ek,Hk,hEk,hHk,hdst⟩:=hst i x hx;have A:∀(j:Nat) (y:Ent2),j<i->l[j]?=some y->qL ops.toList y x=true->f.getD j false=true:=by
    intro j y q y_ hcl;exact hbef j i y x q y_ hx hcl _ e_ ops[i] (by simp[ho]) hpre
   have d_:∀(j:Nat) (y:Ent2),i<j->l[j]?=some y->qL ops.toList x y=true->f.getD j false=false:=by
    intro j y q y_ hcl;cases hjl:f.getD j false with
    |false=>rfl
    |true =>
     have hjlt:j<l.length:=(m9.1 y_).1;have hjo:ops.toList[j]?=some y.o:=hlo j y y_;have:=hbef i j x y q hx y_ hcl _ e_ y.o hjo (λe he hb=>e_ j y.o hjo hjl e he hb);rw[hnl']at this;cases this
   have agreeE:∀t,(∀(j:Nat) (y:Ent2),l[j]?=some y->y.o.dst=some t->(j<i->qL ops.toList y x=true)/\(i<j->qL ops.toList x y=true))->A_.get t=Ek.get t:=by
    intro t ht;rw[hE1 t,hEk t];refine FR (E:=E) ops.size i X (λj y q K=>⟨λz=>A j y z q ((ht j y q K).1 z),λh1 h2=>?_⟩);by_cases e:j=i
    ·subst e;exact hnl'
    exact d_ j y (by omega) q ((ht j y q K).2 (by omega))
   have agreeH:∀k,(∀(j:Nat) (y:Ent2),l[j]?=some y->(y.r.W.get k).isSome=true->(j<i->qL ops.toList y x=true)/\(i<j->qL ops.toList x y=true))->H1.get k=Hk.get k:=by
    intro k u_;rw[hH1 k,hHk k];refine FQ (H:=H) ops.size i X (λj y q K=>⟨λz=>A j y z q ((u_ j y q K).1 z),λh1 h2=>?_⟩);by_cases e:j=i
    ·subst e;exact hnl'
    exact d_ j y (by omega) q ((u_ j y q K).2 (by omega))
   have u:∀t,t∈iX ops.toList x.o->A_.get t=Ek.get t:=λt ht =>
    agreeE t λj y q K=>⟨λ_=>OJ K ht,λ_=>OI K ht⟩
   have T:∀k,tO x.r.R k=true->H1.get k=Hk.get k:=λk u_ =>
    agreeH k λj y q K=>⟨λ_=>Bf K u_,λ_=>Bg K u_⟩
   have s:∀j,(f.setIfInBounds i true).getD j false=if j=i then true else f.getD j false:=by
    intro j;by_cases e:j=i
    ·subst e;simp[Array.getD,R]
    simp only[Array.getD_eq_getD_getElem?,Array.getElem?_setIfInBounds_ne (Ne.symm e),e,if_false]
   have hdown':Wb ops.toList (λj=>(f.setIfInBounds i true).getD j false):=by
    intro j o q hjl e he hb;simp only[s]at hjl |-;by_cases ej:j=i
    ·subst ej;have:o=ops[j]:=by simp[ho]at q;exact q.symm
     subst this;have:=hpre e he hb;simp[this]
    simp only[ej,if_false]at hjl;have:=e_ j o q hjl e he hb;simp only at this;simp[this]
   have hcnt':((List.range ops.size).filter λj=>!(f.setIfInBounds i true).getD j true).length<=L:=by
    have hlist':∀j,(f.setIfInBounds i true).getD j true=if j=i then true else f.getD j true:=by
     intro j;by_cases e:j=i
     ·subst e;simp[Array.getD,R]
     simp only[Array.getD_eq_getD_getElem?,Array.getElem?_setIfInBounds_ne (Ne.symm e),e,if_false]
    have h1:((List.range ops.size).filter λj=>!(f.setIfInBounds i true).getD j true)=((List.range ops.size).filter λj=>!f.getD j true).filter λj=>j != i:=by
     rw[List.filter_filter];refine List.filter_congr λj _=>?_;rw[hlist'];by_cases e:j=i<;>simp[e]
    rw[h1];have h2:=List.length_filter_lt_length_iff_exists (p:=λj=>j != i) (l:=(List.range ops.size).filter λj=>!f.getD j true) |>.2 ⟨i,List.mem_filter.2 ⟨hi1.1,by simpa using hnl⟩,by simp⟩;omega
   have o_:∀(r:AV) (a':Act) (w':World),F->r=x.r.v->St G N (nD A_ x.o.dst x.r.v) (x.r.W++H1) a' w'->wpAnyIn (RF ro) 0 P .any ops (λe a w=>∃E H,Q e E H/\St G N E H a w) L (f.setIfInBounds i true) a' w':=by
    intro r a' w' hFx _ hst';refine ih _ a' w' _ _ (by simp[hsz]) hcnt' hdown' (λk u_ F' hF'=>?_) hst' (λt=>?_) (λk=>?_)
    ·rw[s]at u_;by_cases e:k=i
     ·subst e;rw[hFi]at hF';cases hF';exact hFx
     rw[a8 e]at u_;exact hfac k u_ F' hF'
    ·-- slots
     by_cases K:x.o.dst=some t
     ·have e1:cY.get (nD A_ x.o.dst x.r.v) t=some x.r.v:=by rw[K];simp[nD,cY.get_cons_same]
      rw[e1];have e2:=FR (E:=E) (l:=l) (f_:=λj=>(f.setIfInBounds i true).getD j false) (t:=t) ops.size (i+1) X (λj y q hyd=>⟨λz=>?_,λh1 h2=>?_⟩)
      ·rw[e2,OT,hx];simp[K]
      ·simp only[s];by_cases ej:j=i
       ·simp[ej]
       simp only[ej,if_false];exact A j y X q (HE hyd K)
      simp only[s];rw[a8 X];exact d_ j y X q (HE K hyd)
     have e1:cY.get (nD A_ x.o.dst x.r.v) t=A_.get t:=by
      cases hdd:x.o.dst with
      |none=>rfl
      |some d=>exact cY.get_cons_other _ _ (λe=>K (by rw[hdd,e]))
     rw [e1,hE1 t];have:∀ n,OT E l (λi=>f.getD i false) n t=OT E l (λj=>(f.setIfInBounds i true).getD j false) n t:=by
      intro n
      induction n with
      |zero=>rfl
      | succ n D =>
       rw[OT,OT];cases hn:l[n]? with
       |none=>exact D
       |some y =>
        simp only;by_cases en:n=i
        ·subst en;rw[hx]at hn;cases hn;rw[a8 (λh=>K h.2),a8 (λh=>K h.2)];exact D
        have hS:(f.setIfInBounds i true).getD n false=f.getD n false:=by rw[s,a8 en]
        rw[hS,D]
     exact this _
    rw[PJ];by_cases K:(x.r.W.get k).isSome=true
    ·have ⟨ob,hob⟩:=Option.isSome_iff_exists.1 K;rw[hob];have e2:=FQ (H:=H) (l:=l) (f_:=λj=>(f.setIfInBounds i true).getD j false) (id:=k) ops.size (i+1) X (λj y q hyd=>⟨λz=>?_,λh1 h2=>?_⟩)
     ·rw[e2,NL,hx];simp[hob]
     ·simp only[s];by_cases ej:j=i
      ·simp[ej]
      simp only[ej,if_false];exact A j y X q (XN hyd K)
     simp only[s];rw[a8 X];exact d_ j y X q (XN K hyd)
    have hnone:x.r.W.get k=none:=by simpa using K
    rw [hnone];simp only;rw [hH1 k];have:∀ n,NL H l (λi=>f.getD i false) n k=NL H l (λj=>(f.setIfInBounds i true).getD j false) n k:=by
     intro n
     induction n with
     |zero=>rfl
     | succ n D =>
      rw[NL,NL];cases hn:l[n]? with
      |none=>exact D
      |some y =>
       simp only;by_cases en:n=i
       ·subst en;rw[hx]at hn;cases hn;rw[a8 (λh=>K h.2),a8 (λh=>K h.2)];exact D
       have hS:(f.setIfInBounds i true).getD n false=f.getD n false:=by rw[s,a8 en]
       rw[hS,D]
    exact this _
   unfold wpOpIn;simp only[ho];rw[hxo]at hdst u W;rw[hxo]at o_;have hgE:∀(j:Nat) (v_:Bool) (t:Tmp) (b:Bool),(ops[i]).guard=some (j,v_)->jM ops.toList j=some t->Ek.get t=some (.pv (.bool b))->yielded ops a.tmps j=some b:=by
    intro j v_ t b hg q hb;have hmem:t∈iX ops.toList ops[i]:=by simp[iX,hg,q]
    exact C6 (E:=A_) q ((u t hmem).trans hb) p.rel.choose_spec.choose_spec.2.2
   have hnd:ro=none\/(ops[i]).noDefer=true:=hnd0.imp (λh=>h) λh=>List.all_eq_true.1 h _ (by simp);cases hdst with
   | pan hg h =>
    have hlr:∀y∈l,y.r∈rs:=λy y_=>by
     obtain ⟨k,u_⟩:=s8.1 y_;rw[hl,List.getElem?_zipWith]at u_;cases e1:ops.toList[k]? with
     |none=>simp[e1]at u_
     |some o=>cases e2:rs[k]? with
      |none=>simp[e1,e2]at u_
      |some r=>simp[e1,e2]at u_;rw[<-u_];exact m8 e2
    have hw:Region.wanted ops[i] (yielded ops a.tmps)=true:=by simp[Region.wanted,hg]
    simp only[hw,if_true];refine p.opP W ((h H1 T).restr u) ?_ ?_ hnd
    ·rintro r H2 a' w' ⟨rfl,rfl,hF⟩ f_;exact o_ _ a' w' hF Z f_
    intro ch H2 w' hp f_;refine⟨A_,H2,hP ch A_ H1 H2 (λt ht=>(hE1 t).trans (QI (λy y_=>om hT t ht y.o (by
     have ⟨k,u_⟩:=s8.1 y_;exact m8 (hlo k y u_))) _)) (λid hid o ho=>?_) (λid hid=>(hH1 id).trans (QH (λy y_=>oj hKs id hid y.r (hlr y y_)) _)) hp,f_⟩
    have hsh:=X9 (H:=H) (l:=l) (f_:=λi=>f.getD i false) (id:=id) ho (λy y_ o' ho'=>?_) ops.size
    ·obtain ⟨o',h1,h2⟩:=hsh;exact⟨o',(hH1 id).trans h1,h2⟩
    exact yi hW y.r (hlr y y_) id hid o' ho' o ho
   | old hF hdst =>
    have o_:=λr a' w'=>o_ r a' w' hF;cases hdst with
    |plain hg h =>
     have hw:Region.wanted ops[i] (yielded ops a.tmps)=true:=by simp[Region.wanted,hg]
     simp only[hw,if_true];refine p.op W ((h H1 T).restr u) ?_ hnd;rintro r H2 a' w' ⟨rfl,rfl⟩ f_;exact o_ _ a' w' Z f_
    |on j v_ t b hg q hb hw h =>
     have y_:=hgE j v_ t b hg q hb;have hw:Region.wanted ops[i] (yielded ops a.tmps)=true:=by simp[Region.wanted,hg,y_,hw]
     simp only[hw,if_true];refine p.op W ((h H1 T).restr u) ?_ hnd;rintro r H2 a' w' ⟨rfl,rfl⟩ f_;exact o_ _ a' w' Z f_
    | off j v_ t x' hg q hb hw hv hW =>
     have hmem:t∈iX ops.toList ops[i]:=by simp[iX,hg,q]
     have hw:Region.wanted ops[i] (yielded ops a.tmps)=false :=
      W0 (E:=A_) hg q ((u t hmem).trans hb) hw p.rel.choose_spec.choose_spec.2.2
     simp only[hw,Bool.false_eq_true,if_false];refine⟨λ_ _=>trivial,?_⟩;refine o_ (.tup []) _ w hv.symm ?_;have ⟨I,ι,hr,hst2,he⟩:=p.rel;rw[hv,hW];refine⟨?_,?_,I,ι,hr,hst2,lJ.put hr (Step.refl _ _ _ _) he lJ.skip (by rw[p.size];exact W)⟩
     ·rw[mA];exact p.defers
     have:=p.size;cases (ops[i]).dst<;>simpa[Act.put]using this
 have f_:St G N E H a {w with drawn:=w.drawn+1}:=by
  obtain ⟨I,ι,hr,hst2,he⟩:=hs.rel;obtain ⟨k2,k3⟩:=hr.drawn (w':={w with drawn:=w.drawn+1}) Z Z Z Z;exact⟨hs.defers,hs.size,I,ι,k2,hst2.trans k3,λt v ht=>let ⟨c,h1,h2⟩:=he t v ht;⟨c,h1,h2.mono hr k3⟩⟩
 refine main ops.size (Array.replicate ops.size false) a _ E H (by simp) (by
  have:=List.length_filter_le (λi=>!(Array.replicate ops.size false).getD i true) (List.range ops.size)
  simpa using this) (λj o q hjl=>by simp[Array.getD]at hjl) (λk u_=>by simp[Array.getD]at u_) f_ (λt=>?_) (λk=>?_)
 ·have:∀n,OT E l (λi=>(Array.replicate ops.size false).getD i false) n t=E.get t:=by
   intro n
   induction n with
   |zero=>rfl
   | succ n D =>
    rw[OT];cases l[n]? with
    |none=>exact D
    |some y =>
     have hf:(Array.replicate ops.size false).getD n false=false:=by simp[Array.getD]
     simp only[hf,Bool.false_eq_true,false_and,if_false];exact D
  exact(this _).symm
 have:∀n,NL H l (λi=>(Array.replicate ops.size false).getD i false) n k=H.get k:=by
  intro n
  induction n with
  |zero=>rfl
  | succ n D =>
   rw[NL];cases l[n]? with
   |none=>exact D
   |some y =>
    have hf:(Array.replicate ops.size false).getD n false=false:=by simp[Array.getD]
    simp only[hf,Bool.false_eq_true,false_and,if_false];exact D
 exact(this _).symm
theorem DChain.toP{rs:List Rec}(h:DChain P N ops rest E H rs E' H'):DChainP P N ops (λ_ _ _=>False) rest E H rs (rs.map λ_=>True) E' H':=by
 induction h with
 |nil=>exact .nil
 |cons hs hd hr ih=>exact .cons (.old T_ hs) hd ih
theorem Mz{ops:Array Oper}{rs:List Rec}(hm:P.follows .mixedOrders=true)(hc:DChain P N ops.toList ops.toList E H rs E' H')(hok:R0 ops.toList rs=true)
  (hK:Q .normal E' H'):gG P G0 N (.region id ops true) Q E H :=
 XQ (PP:=λ_ _ _=>False) hm hc.toP hok [] [] (by simp[Qp]) (by simp[vb]) [] (by rw[vc,all_eq_true];intro o _;cases o.dst<;>rfl) (λ_ _ _ _ _ _ _ h=>h.elim) λ_=>hK
end
section
def eN(P:Program)(T:TypeId)(cells:List AV):Prop:=∃z v,(∀w,(zeroValue T).run P w=.ok z w)/\ZV z v/\PU v=some cells
def kO(P:Program)(T:TypeId)(places:List (Nat×Nat))(l0:List AV):Prop :=∃fs pl z v,P.underlying T=some (.struct fs)/\(∀w,(zeroValue T).run P w=.ok z w)/\ZV z v/\PU v=some l0/\(∀w,((fs.mapM λf=>do pure (f.offset,<-sizeOf f.type)):Sem (Array (Nat×Nat))).run P w=.ok pl w)/\pl.toList=places
def PW(P:Program)(T:TypeId)(sz:Nat)(l0:List AV):Prop :=∃n e z v,P.underlying T=some (.array n e)/\(∀w,(zeroValue T).run P w=.ok z w)/\ZV z v/\PU v=some l0/\∀w,(sizeOf e).run P w=.ok sz w
def fG(P:Program)(T e sz:TypeId):Prop:=P.underlying T=some (.slice e)/\(∀w,(sizeOf e).run P w=.ok sz w)/\0<sz/\∃z,∀w,(zeroValue e).run P w=.ok z w
def EI(P:Program)(e:TypeId)(sz bytes:Nat):Prop:=jb P e sz bytes/\0<bytes
theorem EI.mk{P}{e}{sz bytes}{z}(h:(P.info? e).map (λi=>(i.zero,i.size,i.bytes))=some (some z,sz,bytes))(d:z.cells.size=sz)(c:0<sz)(b:0<bytes):EI P e sz bytes:=by
 refine⟨?_,b⟩;cases a:P.info? e with
 |none=>rw[a]at h;cases h
 |some i =>
  rw[a]at h;simp[Option.map_some,Option.some.injEq,Prod.mk.injEq]at h;have ⟨g,f,j⟩:=h;exact⟨i,z,a,g,f,j,d,c⟩
theorem cN.congr{P}{N}{o}{E}{H H2 H3}{v}(h:cN P N o E H v H2)(l:∀j,H3.get j=H2.get j):cN P N o E H v H3:=by intro a w I ι n m k f K Q i;refine h a w I _ n m k f K Q ?_;rintro c w' I' ι' r H' ⟨rfl,rfl⟩ g b d;have ⟨p,e⟩:=b.congr l;exact i c _ _ _ _ _ ⟨Z,Z⟩ (g.mono b e) p (d.trans e)
theorem xQ(H:aF)(id)(o):∀j,aF.get ((id,o)::H) j=(H.set id o).get j:=by
 intro j;by_cases e:j=id
 ·subst e;rw[aF.get_set_same,get_cons_same]
 rw[aF.get_set_other _ _ e,get_cons_other _ _ e]
section
variable{o:Oper}{x y:Operand}
theorem CA{cells}{id n}(b:o.op=.alloc T)(g:eN P T cells)(d:cells.length=n+1)(a:H.get id=none):cN P N o E H (.ref id 0 0 0) ((id,⟨0,n+1,T,[cells]⟩)::H) :=let ⟨_,_,f,e,c⟩:=g;zq b f e c d a
theorem ON{a}{places}{l0 l}{aps}(f:o.op=.build T a)(c:kO P T places l0)(b:qD E a.toList=some aps)(hf:DO (λi=>places[i]?) l0 aps=some l):
  cN P N o E H (.agg l) H:=by
 have ⟨fs,pl,z,v,e,h,g,d,j,h6⟩:=c;refine MD f e h g d j b ?_
 grind
theorem zE{a}{sz}{l0 l}{aps}(f:o.op=.build T a)(c:PW P T sz l0)(b:qD E a.toList=some aps)(h:DO (λi=>some (i*sz,sz)) l0 aps=some l):
  cN P N o E H (.agg l) H :=
 let ⟨_,_,_,_,e,j,g,d,k⟩:=c;UQ f e j g d k b h
theorem aK{e:Nat}{a}{aps}{rows}(ps)(h:o.op=.buildSlice T n a)(hS:fG P T e sz)(m:Nat.ble (n*sz) 16777216=true)(f:qD E a.toList=some aps)(j:N4 0 aps=some rows)
  (c:ps.map (·.map AV.pv)=rows) (b:ps.length=n) (d:∀r∈ps,r.length=sz):cN P N o E H (.pv (.sl ps)) H :=
 let ⟨g,k,i,_,l⟩:=hS;RX h g k l (r_ m) i f j c b d
theorem gN{e:Nat}{a}{aps}{rows}(i:o.op=.buildSlice T n a)(hS:fG P T e sz)(g:Nat.ble (n*sz) 16777216=true)(f:qD E a.toList=some aps)(k:N4 0 aps=some rows)
  (b:rows.length=n) (c:∀r∈rows,r.length=sz) (d:H.get id=none):cN P N o E H (.osl id 0 0 n) ((id,⟨0,sz,e,rows⟩)::H) :=
 let ⟨h,l,j,_,m⟩:=hS;HY i h l m (r_ g) j f k b c d
theorem lR{v}{cells r}{id g n}{ob}(d:o.op=.store T x y)(h:∀w,(sizeOf T).run P w=.ok n w)(e:aO E x=some (.ref id g 0 0))(f:aO E y=some v)(i:PU v=some cells)
  (c:cells.length=n) (b:H.get id=some ob) (a:ob.g=g) (hi:ob.rows=[r]) (hk:r.length=n):cN P N o E H .any ((id,⟨g,ob.sz,ob.ty,[cells]⟩)::H):=by
 subst a;refine cN.congr (MC (r':=cells) d e f i h c b Z (by rw[hi];rfl) X ?_ Z) (λj=>?_)
 ·simp_all
 rw[xQ]
 grind
theorem cQ{v}{r r'}{id g i k}{ob}{rows'}(e:o.op=.store T x y)(l:∀w,(sizeOf T).run P w=.ok 1 w)(f:aO E x=some (.ref id g i k))(h:aO E y=some v)(m:PU v=some [v])
  (n:H.get id=some ob) (c:ob.g=g) (hi:ob.rows[i]?=some r) (d:k<r.length) (b:r.set k v=r') (a:ob.rows.set i r'=rows'):cN P N o E H .any ((id,⟨g,ob.sz,ob.ty,rows'⟩)::H):=by
 subst c a;refine cN.congr (MC e f h m l Z n Z hi X ?_ Z) (λj=>xQ _ _ _ j);rw[<-b,set_eq_take_append_cons_drop,b7 d];rfl
theorem qO{v}{cells r r'}{id g i k n}{ob}{rows'}(f:o.op=.store T x y)(m:∀w,(sizeOf T).run P w=.ok n w)(l:aO E x=some (.ref id g i k))(h:aO E y=some v)(p:PU v=some cells)
  (q:cells.length=n) (d:H.get id=some ob) (c:ob.g=g) (hi:ob.rows[i]?=some r) (e:k+n<=r.length) (b:r.take k++(cells++r.drop (k+n))=r') (a:ob.rows.set i r'=rows'):cN P N o E H .any ((id,⟨g,ob.sz,ob.ty,rows'⟩)::H):=by
 subst c a;exact cN.congr (MC f l h p m q d Z hi e b Z) (λj=>xQ _ _ _ j)
theorem cb{n m bytes}(a:0<bytes)(h:(n+m)*bytes<=140737488355328):n+m<=9223372036854775807:=by have:n+m<=(n+m)*bytes:=Nat.le_mul_of_pos_right _ a;omega
theorem cA{e}{ob}{ps}{rows'}(u:o.op=.call {callee:=.builtin .append,args:=#[x,y],argTypes:=#[T,T]})(hS:fG P T e sz)(b:EI P e sz bytes)
  (q:aO E x=some (.osl id g 0 n)) (i:H.get id=some ob) (t:ob.g=g) (d:ob.sz=sz) (h:ob.ty=e) (l:ob.rows.length=n)
  (p:aO E y=some (.pv (.sl ps))) (f:∀r∈ps,r.length=sz) (v:ps.length=m) (a:(n+m)*bytes<=140737488355328) (s:n+m=k) (c:ob.rows++ps.map (·.map AV.pv)=rows') :
  cN P N o E H (.osl id (g+1) 0 k) ((id,⟨g+1,sz,e,rows'⟩)::H):=by
 subst s c;exact cN.congr (UR u hS.1 b.1 q i t d h l p f v a (cb b.2 a) Z) (λj=>xQ _ _ _ j)
theorem D8{e}{c:Nat}{s k2}{f g}{b}(A:o.op=.makeSlice T x y)(hS:fG P T e sz)(a:EI P e sz bytes)(i:eN P e b)(d:b.length=sz)
  (m:aO E x=some (.pv (.int s f))) (k:aO E y=some (.pv (.int k2 g))) (r:0<=f) (t:f<=g) (n:f.toNat=l) (q:g.toNat=c) (w:bytes*c<=281474976710656) (h:H.get id=none) :
  cN P N o E H (.osl id 0 0 l) ((id,⟨0,sz,e,List.replicate l b⟩)::H):=by
 have ⟨z,v,j,u,p⟩:=i;have hpos:c<=bytes*c:=Nat.le_mul_of_pos_left _ a.2;exact UJ A hS.1 a.1 j u p d m k r t n q w X h
theorem bU{e}{rows}{r}{h}{n}(c:o.op=.indexAddr T x y)(hS:fG P T e sz)
  (d:aO E x=some (.pv (.sl rows))) (f:aO E y=some (.pv (.int h n))) (g:0<=n) (a:n.toNat=m) (hi:rows[m]?=some r) (b:r.length=sz):cN P N o E H (.pad rows m 0) H :=
 UK c hS.1 hS.2.1 d f g a hi b
theorem dL{e}{c}{n}{ob}(f:o.op=.indexAddr T x y)(hS:fG P T e sz)
  (i:aO E x=some (.osl id g off len)) (d:H.get id=some ob) (k:ob.g=g) (a:ob.sz=sz) (h:aO E y=some (.pv (.int c n))) (j:0<=n) (l:n.toNat=m) (hi:m<len) (b:off+m=m2):cN P N o E H (.ref id g m2 0) H :=
 UL f hS.1 hS.2.1 i d k a h j l hi b
theorem eY{e}{d hi}{rows rows'}(k:o.op=.slice T x d hi none)(hS:fG P T e sz)(g:aO E x=some (.pv (.sl rows)))
  (a:∀r∈rows,r.length=sz) (c:bnd E d 0=some (l:Int)) (b:bnd E hi rows.length=some (h:Int)) (j:l<=h) (f:h<=rows.length) (i:(rows.take h).drop l=rows'):cN P N o E H (.pv (.sl rows')) H :=
 Y4 k hS.1 hS.2.1 g a c b j f i
theorem kP{e}{k hi}{a:Nat}{ob}(m:o.op=.slice T x k hi none)(hS:fG P T e sz)(n:aO E x=some (.osl id g off len))
  (s:H.get id=some ob) (q:ob.g=g) (f:ob.sz=sz) (j:bnd E k 0=some (l:Int)) (d:bnd E hi len=some (h:Int)) (p:l<=h) (r:h<=len) (c:off+l=a) (i:h - l=b):cN P N o E H (.osl id g a b) H :=
 G3 m hS.1 hS.2.1 n s q f j d p r c i
end
section
variable{ops:Array Oper}{K:cY->aF->Prop}{o:Oper}
theorem Nn{j}{a b}{t d}{v}{H2}(l:o.guard=some (j,a))(e:jM ops.toList j=some t)(c:E.get t=some (.pv (.bool b)))(m:b=a)(hd:o.dst=some d)(g:Nat.blt d N=true)(h:cN P N o E H v H2)
  (i:AL P G0 N ops K rest ((d,v)::E) H2):AL P G0 N ops K (o::rest) E H :=
 aDW l e c m (by rw[hd];exact g) h λr H' ⟨f,k⟩=>by subst f k;rw[hd];exact i
theorem zm{c x y}{b}{v}(a:o.op=.pick c x y)(d:aO E c=some (.pv (.bool b)))(hb:b=true)(hv:aO E x=some v):cN P N o E H v H:=EN a d F_
theorem zn{c x y}{b}{v}(a:o.op=.pick c x y)(d:aO E c=some (.pv (.bool b)))(hb:b=false)(hv:aO E y=some v):cN P N o E H v H:=EN a d F_
end
section
variable{ops:Array Oper}{K:cY->aF->Prop}
theorem cL.sub{E'}(h:∀k v,E'.get k=some v->E.get k=some v):cL G0 E H E' H:=by intro G hG N a w c;have ⟨I,g,e,b,d⟩:=c.rel;exact⟨c.defers,c.size,I,g,e,b,λt v f=>d t v (h t v f)⟩
theorem Nm{l}{t:Tmp}{b}(hb:E.get t=some (.pv (.bool b)))(i:b=true->AL P G0 N ops K l ((t,.pv (.bool true))::E) H)(m:b=false->AL P G0 N ops K l ((t,.pv (.bool false))::E) H):AL P G0 N ops K l E H:=by
 have d:∀c,b=c->AL P G0 N ops K l ((t,.pv (.bool c))::E) H->AL P G0 N ops K l E H:=by
  rintro c rfl h G g a w j;refine h G g a w (cL.sub (λk v f=>?_) G g N a w j);by_cases e:t=k
  ·subst e;rw[cY.get_cons_same]at f
   grind
  rwa [cY.get_cons_other _ _ e]at f
 cases b
 ·exact d _ Z (m Z)
 exact d _ Z (i Z)
def aDD(t:Nat)(D E:cY):Bool:=D.all λp=>Nat.beq p.1 t||E.all λq=>!(Nat.beq p.1 q.1)
def ja(n t:Nat)(A_:Bool)(E:cY)(H:aF)(E1:cY)(H1:aF):Prop:=(∃b,E1.get t=some (.pv (.bool b))/\b=A_)/\H1=H/\E1.drop n=E/\aDD t (E1.take n) E=true
theorem Gj{n t A_}{E:cY}{H:aF}{E1 H1 b}(h1:E1.get t=some (.pv (.bool b)):=by rfl)(h2:H1=H:=by rfl)(h3:E1.drop n=E:=by rfl)(h4:aDD t (E1.take n) E=true:=by rfl)(h:b=A_):ja n t A_ E H E1 H1:=⟨⟨b,h1,h⟩,h2,h3,h4⟩
theorem Uz(D E)(k):cY.get (D++E) k=match D.get k with|some v=>some v|none=>E.get k:=by
 induction D with
 |nil=>rfl
 |cons x r a =>
  have ⟨i,v⟩:=x;cases e:Nat.beq i k with
  |true=>simp[cY.get,e]
  |false=>simpa[cY.get,e]using a
theorem ja.ent{n t}{A_}{d}{H1}(h:ja n t A_ E H d H1):cL G0 d H1 ((t,.pv (.bool A_))::E) H:=by
 obtain ⟨⟨b,h1,rfl⟩,rfl,i,j⟩:=h;refine cL.sub λk v c=>?_;by_cases e:t=k
 ·subst e;rw[cY.get_cons_same]at c
  grind
 rw[cY.get_cons_other _ _ e]at c;have a:d.take n++E=d:=by rw[<-i];exact take_append_drop n _
 rw[<-a,Uz];cases m:cY.get _ k with
 |none=>exact c
 |some u =>
  have l:=iL m;have g:=iL c;have f:=all_eq_true.1 j _ l;simp only[jR (Ne.symm e),Bool.false_or]at f;have:=all_eq_true.1 f _ g;simp[pI]at this
theorem pJ{id n t}{d}{A_}{Q}(h:gG P G0 N (.region id ops d) (λe c H1=>e=.normal/\ja n t A_ E H c H1) E H)(g:Q .normal ((t,.pv (.bool A_))::E) H):gG P G0 N (.region id ops d) Q E H:=by intro G f a w k ro j;refine wpIn_mono (h G f a w k _ j) ?_;rintro e a' w' ⟨c,H1,⟨rfl,i⟩,b⟩;exact⟨_,_,g,(i.ent) G f N _ _ b⟩
theorem aQ{id n t}{A_}{Q}(h:AL P G0 N ops (λc H1=>ja n t A_ E H c H1) ops.toList E H)(e:Q .normal ((t,.pv (.bool A_))::E) H):gG P G0 N (.region id ops false) Q E H :=pJ (DL (λG i a w j ro g Q' f=>h G i a w j _ g _ (λc H1 a1 w1 d b=>f _ _ _ _ ⟨Z,d⟩ b))) e
end
section
variable{o:Oper}{v:AV}{t:Tmp}{b:Bool}{r:Rec}
theorem Za(e:o.guard=some (j,true))(d:jM ops j=some t)(a:E.get t=some (.pv (.bool b)))(c:b=true)(h:cN P N o (restr E (iX ops o)) H v H):DStep P N ops o E H ⟨v,none,[]⟩:=.qon e d a c h
theorem Zb(e:o.guard=some (j,false))(d:jM ops j=some t)(a:E.get t=some (.pv (.bool b)))(c:b=false)(h:cN P N o (restr E (iX ops o)) H v H):DStep P N ops o E H ⟨v,none,[]⟩:=.qon e d a c h
theorem Rv(e:o.guard=some (j,true))(d:jM ops j=some t)(a:E.get t=some (.pv (.bool b)))(c:b=false):DStep P N ops o E H ⟨.tup [],some [],[]⟩:=.qoff e d a (by simp[eg,c])
theorem Rw(e:o.guard=some (j,false))(d:jM ops j=some t)(a:E.get t=some (.pv (.bool b)))(c:b=true):DStep P N ops o E H ⟨.tup [],some [],[]⟩:=.qoff e d a (by simp[eg,c])
theorem Rs{a}(d:o.guard=some (j,a))(e:jM ops j=some t)(c:E.get t=some (.tup [])):DStep P N ops o E H ⟨.tup [],some [],[]⟩:=.qoff d e c Z
theorem Kj(e:o.guard=some (j,true))(d:jM ops j=some t)(a:E.get t=some (.pv (.bool b)))(c:b=true)(h:∀H1,(∀id,tO r.R id=true->H1.get id=H.get id)->cN P N o (restr E (iX ops o)) H1 r.v (r.W++H1)):DStep P N ops o E H r:=.on j _ t b e d a c h
end
theorem aU.pure{P}{f}{args}{b}(h:aU P f args [] (λr H=>r=b/\H=[]))(c:∀a∈args,Clo [] a)(H):aU P f args H (λr H'=>r=b/\H'=H) :=(h.frame0 c (λ_ _ g=>g.2) H).mono λ_ _ ⟨⟨e,_⟩,d⟩=>⟨e,d⟩
def IS(P:Program)(id g:Nat)(args:List AV)(H:aF)(Q:AV->aF->Prop):Prop :=∀(I:Nat->Prop) (ι:lQ) (w:World) (vs:Array Value) (v:Value),Rel I ι H w->VRel w I ι H v (.yld id g)->vs.size=args.length->(∀(i:Nat) (v:Value) (a:AV),vs[i]?=some v->args[i]?=some a->VRel w I ι H v a) ->
  ∃l f tmps assign body,v=.func (.yield l) #[] #[]/\(Instr.yield l vs).run P w=.ok (.round l f tmps assign body) w /\
   RoundIn Fence.wide 0 P l f tmps assign body w λe w'=>∃r H' I' ι' v',e=.returned v'/\Q r H'/\VRel w' I' ι' H' v' r/\Rel I' ι' H' w'/\Step I ι H w I' ι' H' w'
def dH(P:Program)(fv:AV)(args:List AV)(H:aF)(Q:AV->aF->Prop):Prop :=(∃id g,fv=.yld id g/\IS P id g args H Q)\/∃F caps,(fv=.clo F caps\/(fv=.pv (.fn F)/\caps=[]))/\(∀(args:Array Value) (w:World),(callFunc F args).run P w=.ok (.enter F args) w)/\aU P F (args++caps) H Q
theorem dH.clo{P}{F}{a args}{H}{Q}(b:∀(args) (w),(callFunc F args).run P w=.ok (.enter F args) w)(h:aU P F (args++a) H Q):dH P (.clo F a) args H Q:=.inr ⟨F,a,.inl Z,b,h⟩
theorem dH.fn{P}{F}{args}{H}{Q}(a:∀(args) (w),(callFunc F args).run P w=.ok (.enter F args) w)(h:aU P F args H Q):dH P (.pv (.fn F)) args H Q:=.inr ⟨F,[],.inr ⟨Z,Z⟩,a,by simpa using h⟩
theorem Y2{P}{o:Oper}{Q}{f}{args}{c}{e}(s:o.op=.call {callee:=.value f,args:=args,argTypes:=c})(t:aO E f=some (.yld id g))
  (j:yT E args.toList=some e) (h:IS P id g e H Q):ju P N o E H Q:=by
 intro a w I p _ _ u k K Q' hk;have d:=aJ k t;have ⟨l1,m⟩:=pF k (nP j);have ⟨l,fn,tmps,assign,body,r,x,n⟩:=h I p w (args.map a.eval) _ u d F_ (λi v b j q=>m i v b F_ q);unfold Oper.wpW execOp;simp only[s,resolve,r,Deferred.ofValue,Sem.run_bind,Sem.run_pure,Result.andThen_ok,invoke,Array.empty_append,x];refine n.mono ?_
 grind
theorem dA{P}{N}{o}{E}{H}{Q}{f}{args}{i}{l}{j}(b:o.op=.call {callee:=.value f,args:=args,argTypes:=i})(e:aO E f=some j)
  (c:yT E args.toList=some l) (h:dH P j l H Q):ju P N o E H Q:=by
 rcases h with⟨id,g,rfl,h⟩|⟨F,caps,d,k,a⟩
 ·exact Y2 b e c h
 rcases d with rfl|⟨rfl,rfl⟩
 ·exact Y3 b e k c a
 exact bH b e k c (by simpa using a)
def Oh(E:cY):cY->Prop
 | []=>True
 |(t,v)::r=>(∃v0,E.get t=some v0/\v0=v)/\Oh E r
theorem cL.e0{G0}{E E'}{H}(h:Oh E E'):cL G0 E H E' H:=by
 refine cL.env ?_
 induction E' with
 |nil=>simp
 |cons x r ih =>
  obtain ⟨⟨v0,h1,rfl⟩,h2⟩:=h
  grind
theorem Fin.refl{G0 H}{r}:Fin G0 H r H r:=λ_ _ I b _ _ a d c=>⟨I,b,a,d,c⟩
def aAi:AV->Option Value
 |.pv (.int k n)=>some (.int k n)
 |.pv (.bool b)=>some (.bool b)
 |.pv (.str s)=>some (.string s)
 |_=>none
def KS:List AV->Option (List Value)
 | []=>some []
 |a::r=>match aAi a,KS r with
  |some v,some vs=>some (v::vs)
  |_,_=>none
theorem Ut{w}{I}{ι}{H}{c v}{a}(h:VRel w I ι H c a)(b:aAi a=some v):c=v:=by
 unfold aAi at b
 split at b<;>cases b
 ·exact h.int_inv
 ·exact h.bool_inv
 exact h.str_inv
theorem KR{l:List AV}{d:List Value}(h:VRel w I ι H c (.agg l))(p:KS l=some d):c=.agg d.toArray:=by
 cases h with
 | @agg b _ s n f =>
  congr 1;have m:∀(l:List AV) (d b:List Value),b.length=l.length->(∀(i:Nat) (v:Value) (a:AV),b[i]?=some v->l[i]?=some a->VRel w I ι H v a)->KS l=some d->b=d:=by
   intro l
   induction l with
   |nil=>intro d b n _ e;simp[KS]at e;simp_all
   | cons a r x =>
    intro d b n f e;unfold KS at e
    split at e
    ·rename_i v k o t;cases e;cases b with
     |nil=>grind
     |cons u b =>
      have q:u=v:=Ut (f 0 u a Z Z) o;rw[q,x k b G_ (λi v a j g=>f (i+1) v a (by simpa using j) (by simpa using g)) t]
    grind
  have:=m l d b.toList (by simpa using s) (λi v a j g=>f i v a (by simpa using j) g) p;rw[<-this]
section
variable{o:Oper}{T t':TypeId}{x y:Operand}{l1 l2:List AV}{xs ys:List Value}{b:Bool}
theorem BI(g:o.op=.binOp .eql T x y t')(i:aO E x=some (.agg l1))(h:aO E y=some (.agg l2))(f:KS l1=some xs)(l:KS l2=some ys)(k:P.eqGuardType P.depth T=false)
  (d:∀w,(Op.equalIn 10000 T (.agg xs.toArray) (.agg ys.toArray)).run P w=.ok b w):cN P N o E H (.pv (.bool b)) H :=
 .of_run λa w I ι _ c=>⟨.bool b,by
  have e:=KR (aJ c i) f;have j:=KR (aJ c h) l;simp[execOp,g,e,j,Sem.run_bind,run_eqGuard_agg w _ _ _ _ _ _ k,Result.andThen_ok,run_eql_struct w,d,Sem.run_pure],.pv (.bool _)⟩
theorem J7(g:o.op=.binOp .neq T x y t')(i:aO E x=some (.agg l1))(h:aO E y=some (.agg l2))(f:KS l1=some xs)(l:KS l2=some ys)(k:P.eqGuardType P.depth T=false)
  (d:∀w,(Op.equalIn 10000 T (.agg xs.toArray) (.agg ys.toArray)).run P w=.ok b w):cN P N o E H (.pv (.bool (!b))) H :=
 .of_run λa w I ι _ c=>⟨.bool _,by
  have e:=KR (aJ c i) f;have j:=KR (aJ c h) l;simp[execOp,g,e,j,Sem.run_bind,run_eqGuard_agg w _ _ _ _ _ _ k,Result.andThen_ok,run_neq_struct w,d,Sem.run_pure],.pv (.bool _)⟩
end
theorem mE{n}(h0 : -9223372036854775808<=n)(h1:n<=9223372036854775807):IntKind.i64.wrap n=n:=by rw[IntKind.wrap_i64];omega
theorem wu8{n}(h0:0<=n)(h1:n<=255):IntKind.u8.wrap n=n:=by
 simp[IntKind.wrap,IntKind.bits,IntKind.signed]
 grind
end
abbrev iv(n:Int):AV:=.pv (.int .i64 n)
abbrev bv(b:Bool):AV:=.pv (.bool b)
abbrev sv(s:B_):AV:=.pv (.str s)
abbrev lv(l:List (List PV)):AV:=.pv (.sl l)
abbrev av(l:List PV):AV:=.agg (l.map .pv)
abbrev bx(n T:Nat)(r:List AV):Ob:=⟨0,n,T,[r]⟩
theorem dG.of{H}(h:∀p∈H,∀r∈p.2.rows,∀a∈r,Clo H a):dG H:=λ_ _ b=>h _ (dY b)
theorem Sub.app{D H}(b:∀p∈D,H.get p.1=none):Sub H (D++H):=λid o a=>by
 rw[PJ];cases e:D.get _ with
 |none=>exact a
 |some o'=>exact absurd (b _ (dY e)) F_
def DC(P:Program)(N:Nat)(ops rest:List Oper)(E:cY)(H:aF)(K:List Rec->cY->aF->Prop):Prop:=∃rs E' H',DChain P N ops rest E H rs E' H'/\K rs E' H'
theorem bG{P}{N}{ops}{E}{H}{K}(h:K [] E H):DC P N ops [] E H K:=⟨_,_,_,.nil,h⟩
theorem iH{P}{N}{ops rest}{o}{E}{H}{K}{r}(h:DStep P N ops o E H r)(hd:jB N o.dst=true)
  (b:DC P N ops rest (nD E o.dst r.v) (r.W++H) (λa E' H'=>K (r::a) E' H')):DC P N ops (o::rest) E H K:=by
 have ⟨a,E',H',d,c⟩:=b;exact⟨_,_,_,.cons h hd d,c⟩
theorem aM{P}{G0}{N id}{Q}{ops}{E}{H}(b:P.follows .mixedOrders=true)
  (h:DC P N ops.toList ops.toList E H (λa E' H'=>R0 ops.toList a=true/\Q .normal E' H')):gG P G0 N (.region id ops true) Q E H:=by
 have ⟨a,E',H',e,c,d⟩:=h;exact Mz b e c d
end Go.Abs
