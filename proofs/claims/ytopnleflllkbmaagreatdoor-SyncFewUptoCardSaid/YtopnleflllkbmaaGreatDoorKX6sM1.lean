/-
  Parts of the proof. Conditions: each theorem's own.
-/
import Derived.Test.YtopnleflllkbmaaGreatDoorChecked
import Derived.WalkKit
import Derived.ProofKit
import Derived.Laws.AppendOwn
import Derived.Laws.CopyOwn
import Derived.Laws.MakeOwn
import Derived.RowKit3
import Derived.Deep.LoopGhost
import Derived.Orders
import Derived.OrdersIn
import Derived.TacticsIn
import Derived.RangeFuncRecord
import Derived.Laws.BytesArg
import Derived.Test.YtopnleflllkbmaaGreatDoorRows
import Derived.OpenShut
import Derived.JoinedCond
import Derived.Carry
import Derived.MapKept
import Derived.Laws.IdiomRangeMap
import Derived.Lib.Bytealg
import Derived.Shelf.SortM.Plain
import Derived.Shelf.SortM.SortNone
import Derived.Ground.SlgmProg
import Derived.Shelf.Strconv.Itoa3
import Derived.Shelf.Bits.Mul64
import Derived.Shelf.LaysM
import Derived.Ground.NamesProg
import Derived.Shelf.Lays
import Derived.Laws.Bits64b
import Derived.Lib.AppendStr
import Derived.Scope
import Derived.Lib.UnsafeStr
import Derived.Lib.MakeNoZero
import Derived.Lib.Builder
import Derived.Lib.Overlaps
import Derived.WalkSpells
import Derived.Lib.SliceRun
import Derived.ChangeKeysEq
import Derived.Lib.ItoaLen
import Derived.Laws.BitsLemmas
import Derived.Below
import Derived.Shelf.Strconv.ErrVarAll
import Derived.Shelf.Strconv.AtoiAll
import Derived.Shelf.LaysC
import Derived.Shelf.Strings.SlTrimAscii
import Derived.WideLaws
import Derived.Laws.Build
import Derived.Lib.Strings
import Derived.Lib.AtoiTie
import Derived.Lib.ItoaMem
import Derived.RecoverIn
set_option linter.unusedVariables false
set_option linter.unusedSimpArgs false
set_option maxRecDepth 100000
set_option maxHeartbeats 8000000
open List Nat
open List renaming length->C
namespace Go.C
end Go.C
open Go.Proofs.YtopnleflllkbmaaGreatDoor
open Option renaming some->A,none->ζ
open Bool renaming true->T,false->η
open ByteArray renaming size->N,data->μ
open Array renaming toList->ν
open Decidable renaming decide->θ
open Go.IntKind renaming i64->ξ
open Go.Proofs.Tryz renaming prog->φ
theorem b9{p:Prop}[Decidable p](h:θ p=T):p:=of_decide_eq_true h
theorem b_{p:Prop}[Decidable p](h:θ p=η):¬p:=of_decide_eq_false h
theorem a8.{u}{c:Prop}{h:Decidable c}(n:¬c){α:Sort u}{t e:α}:(if c then t else e)=e:=if_neg n
theorem b6.{u}{c:Prop}{h:Decidable c}(n:c){α:Sort u}{t e:α}:(if c then t else e)=t:=if_pos n
theorem g_.{u,v}{α:Type u}{β:Type v}{l:List α}(f:α -> β):C (l.map f)=C l:=length_map f
theorem j8.{u}{α:Type u}{l m:List α}:C (l++m)=C l+C m:=length_append
theorem j6.{u}{α:Type u}{a:α}{l:List α}:C (a::l)=C l+1:=rfl
theorem q9.{u}{α:Type u}{a b:α}:a ∈ [b] ↔ a=b:=mem_singleton
theorem m9.{u}{α:Type u}{i:Nat}{a:α}{l:List α}:l[i]?=A a ↔ ∃h:i<C l,l[i]=a:=List.getElem?_eq_some_iff
theorem n_.{u}{α:Type u}{l:List α}{i:Nat}(h:i<C l):l[i]?=A l[i]:=getElem?_eq_getElem h
theorem h_(n:Nat):n <= n:=Nat.le_refl n
theorem k_{p:Prop}[Decidable p]:(θ p=T)=p:=decide_eq_true_eq
theorem q7{p:Prop}{x:Decidable p}:θ p=η ↔ ¬p:=decide_eq_false_iff_not
theorem l6(a b:Bool):((a&&b)=T)=(a=T /\ b=T):=Bool.and_eq_true a b
theorem m7.{u}{α:Type u}{l:List α}{i:Nat}{a:α}(h:l[i]?=A a):a ∈ l:=mem_of_getElem? h
theorem l_(n:Nat):(n:Int).toNat=n:=rfl
theorem l9.{u}{α:Type u}{b:α}{l:List α}{a:α}:a ∈ b::l ↔ a=b \/ a ∈ l:=mem_cons
theorem r_{n m:Nat}(h:n.ble m=T):n <= m:=le_of_ble_eq_true h
theorem m_.{u}{α:Type u}{i:Nat}{l:List α}:C (l.take i)=min i (C l):=length_take
theorem p_.{u}{α:Type u}{i:Nat}{l:List α}:C (l.drop i)=C l-i:=length_drop
theorem q8.{u}{α:Type u}{a:α}:¬a ∈ ([]:List α):=not_mem_nil
theorem l7(n:Nat):0 <= n:=zero_le n
theorem r7(n:Nat):0+n=n:=Nat.zero_add n
theorem r9(b:Bool):((!b)=T)=(b=η):=Bool.not_eq_true' b
theorem r8.{u,v}{α:Type u}{β:Type v}{f:α -> β}{l:List α}{i:Nat}:(l.map f)[i]?=Option.map f l[i]?:=getElem?_map
theorem s8.{u}{α:Type u}{a:α}{l:List α}:a ∈ l ↔ ∃i:Nat,l[i]?=A a:=mem_iff_getElem?
theorem q_{x y:Bool}:(x||y)=η ↔ x=η /\ y=η:=Bool.or_eq_false_iff
theorem X{p:Prop}(h:p:=by omega):p:=h
theorem E_{p:Prop}(h:p:=by decide):p:=h
theorem F_{p:Prop}(h:p:=by simp_all):p:=h
theorem G_{p:Prop}(h:p:=by grind):p:=h
theorem H_{p:Prop}(h:p:=by simp):p:=h
theorem I_{q p:Prop}[Decidable q](h:θ q=T)(g:q->p:=by intro;omega):p:=g (of_decide_eq_true h)
theorem J_{q p:Prop}[Decidable q](h:θ q=η)(g:¬q->p:=by intro;omega):p:=g (of_decide_eq_false h)
theorem s_{p:Prop}(h:p:=by contradiction):p:=h
theorem w_{p:Prop}(h:p:=by with_reducible contradiction):p:=h
theorem Z{α:Sort _}{a:α}:a=a:=rfl
theorem T_:True:=trivial
theorem R_{α:Type _}{a:List α}{n}(h:C a=n:=by rfl):∀r∈[a],C r=n:=by intro r m;rw[mem_singleton]at m;subst m;exact h
theorem C_{α:Type _}{a b:α}(h:a=b:=by rfl):A a=A b:=congrArg A h
theorem X_{α:Sort _}{a:α}:∃b,b=a:=⟨a,Z⟩
abbrev B_:=ByteArray
theorem D_{α:Type _}{a b:α}(h:a=b:=by kernel_rfl):A a=A b:=congrArg A h
namespace Go.Abs
inductive GV where
 |ints (k:IntKind) (l:List Int)
 |face
def GV.holds:GV->Array Value->Prop
 |.ints k l,cs=>cs=(l.map λz=>Value.int k z).toArray
 |.face,cs=>∃t p,cs=#[.iface t p]
def kh:List (Nat×GV):=[(2,.ints .u64 [1,10,100,1000,10000,100000,1000000,10000000,100000000,1000000000,10000000000,100000000000,1000000000000,10000000000000,100000000000000,1000000000000000,10000000000000000,100000000000000000,1000000000000000000,10000000000000000000]),(5,.face),(4,.face)]
end Go.Abs
section
namespace Go.Abs
variable{w w':World}{I:Nat->Prop}
inductive PV where
 |int (k:IntKind) (n:Int)
 |bool (b:Bool)
 |str (s:B_)
 |sl (rows:List (List PV))
 |nilp
 |fn (f:FuncId)
 |nilfn
 |nils
 |nilm
 |slf (rows:List (List PV))
 |sat (p:Value->Prop)
 |ifc (t:TypeId) (p:PV)
 |ifa (t:TypeId) (ps:List PV)
 deriving Inhabited
inductive PRep(w:World)(I:Nat->Prop):Value->PV->Prop
 |int (k:IntKind) (n:Int):PRep w I (.int k n) (.int k n)
 |bool (b:Bool):PRep w I (.bool b) (.bool b)
 |str (s:B_):PRep w I (.string s) (.str s)
 |nilp:PRep w I (.pointer ζ) .nilp
 |fn (f:FuncId):PRep w I (.func (.func f) #[] #[]) (.fn f)
 |nilfn:PRep w I .nilFunc .nilfn
 |nilsl:PRep w I (.slice ζ 0 0) (.sl [])
 |nils:PRep w I (.slice ζ 0 0) .nils
 |nilm:PRep w I (.map ζ) .nilm
 |sat {v:Value} {p:Value->Prop} (h1:v.oneCell'=T) (h:p v):PRep w I v (.sat p)
 |slf (a:Addr) (n:Nat) (rows:List (List PV)) (h:PRep w I (.slice (A a) n n) (.sl rows)):PRep w I (.slice (A a) n n) (.slf rows)
 |ifc (t:TypeId) (v:Value) (p:PV) (h:PRep w I v p):PRep w I (.iface t v) (.ifc t p)
 |ifa (t:TypeId) (cs:Array Value) (ps:List PV) (hl:cs.size=C ps) (h:∀(k:Nat) (c:Value) (p:PV),cs[k]?=A c->ps[k]?=A p->PRep w I c p):PRep w I (.iface t (.agg cs)) (.ifa t ps)
 |empsl (a:Addr):PRep w I (.slice (A a) 0 0) (.sl [])
 | sl (b off cap sz:Nat) (rows:List (List PV)) (cs:Nat->Nat->Value) (hI:I b) (hsz:0 < sz) (hlen:∀ r∈rows,C r=sz) (hcap:C rows<=cap)
   (hc:∀(i:Nat) (r:List PV),rows[i]?=A r->∀(k:Nat) (p:PV),r[k]?=A p->w.cell? ⟨b,off+i*sz+k,ζ⟩=A (cs i k))
   (hp:∀(i:Nat) (r:List PV),rows[i]?=A r->∀(k:Nat) (p:PV),r[k]?=A p->PRep w I (cs i k) p) :
   PRep w I (.slice (A ⟨b,off,ζ⟩) (C rows) cap) (.sl rows)
theorem cell?_of_heap{b o}(h:w'.heap[b]?=w.heap[b]?):w'.cell? ⟨b,o,ζ⟩=w.cell? ⟨b,o,ζ⟩:=by simp[World.cell?,h]
theorem PRep.mono{w w'}{I q}(x:∀b,I b->w'.heap[b]?=w.heap[b]?)(F:∀b,I b->q b){v}{p}(h:PRep w I v p):PRep w' q v p:=by
 induction h with
 |int k n=>exact .int k n
 |bool b=>exact .bool b
 |str s=>exact .str s
 |nilp=>exact .nilp
 |fn f=>exact .fn f
 |nilfn=>exact .nilfn
 |nilsl=>exact .nilsl
 |nils=>exact .nils
 |nilm=>exact .nilm
 |sat y h=>exact .sat y h
 |slf a n e h d=>exact .slf a n _ d
 |ifc t v p h d=>exact .ifc t v p d
 |ifa t D ps E h d=>exact .ifa t _ _ E (λk c p m o=>d k c p m o)
 |empsl a=>exact .empsl a
 |sl b off cap sz e D u l j g m o d =>
  exact .sl b _ _ _ _ _ (F b u) l j g (λi r B k p z=>(cell?_of_heap (x b u)).trans (m i r B k p z)) d
theorem PRep.oneCell{w}{I}{v}{p}(h:PRep w I v p):v.oneCell'=T:=by cases h<;>first|rfl|omega
inductive AV where
 |any
 |pv (p:PV)
 |ref (id g i k:Nat)
 |pad (rows:List (List PV)) (i k:Nat)
 |osl (id g off len:Nat)
 |clo (f:FuncId) (caps:List AV)
 |bnd (f:FuncId) (xs:List AV)
 |agg (cs:List AV)
 |tup (vs:List AV)
 |mp (id g:Nat)
 |it (id g:Nat)
 |osc (id g off len c:Nat)
 |yld (id g:Nat)
 |raw (x:Go.Loop) (ts:List Nat)
 deriving Inhabited
structure Ob where
 g:Nat
 sz:Nat
 ty:TypeId
 rows:List (List AV)
abbrev aF:=List (Nat×Ob)
variable{H H':aF}
abbrev dG:=List (Nat×AV)
def aF.get:aF->Nat->Option Ob
 | [],_=>ζ
 |(i,o)::r,id=>cond (Nat.beq i id) (A o) (aF.get r id)
def aF.set:aF->Nat->Ob->aF
 | [],id,o=>[(id,o)]
 |(i,o')::r,id,o=>cond (Nat.beq i id) ((i,o)::r) ((i,o')::aF.set r id o)
def dG.get:dG->Nat->Option AV
 | [],_=>ζ
 |(i,v)::r,t=>cond (Nat.beq i t) (A v) (dG.get r t)
theorem pW(i:Nat):Nat.beq i i=T:=beq_refl i
theorem kE{i j:Nat}(h:i≠j):Nat.beq i j=η:=by
 cases e:Nat.beq i j with
 |false=>rfl
 |true=>simp_all
theorem aF.get_set_same(H:aF)(id)(o):(H.set id o).get id=A o:=by
 induction H with
 |nil=>simp[aF.set,aF.get,pW]
 |cons x r a =>
  have ⟨i,B⟩:=x;cases e:Nat.beq i id with
  |true=>simp[aF.set,aF.get,e]
  |false=>simp[aF.set,aF.get,e,a]
theorem aF.get_set_other(H:aF){id j}(o)(h:j≠id):(H.set id o).get j=H.get j:=by
 induction H with
 |nil=>simp[aF.set,aF.get,kE (Ne.symm h)]
 | cons x r a =>
  have ⟨i,B⟩:=x;cases e:Nat.beq i id with
  |true =>
   have:=eq_of_beq_eq_true e;subst this;simp[aF.set,aF.get,kE (Ne.symm h),e]
  |false=>simp[aF.set,aF.get,e,a]
theorem dG.get_cons_same(E:dG)(t)(v):dG.get ((t,v)::E) t=A v:=by simp[dG.get,pW]
theorem dG.get_cons_other(E:dG){t u}(v)(h:t≠u):dG.get ((t,v)::E) u=E.get u:=by simp[dG.get,kE h]
abbrev mD:=Nat->Option (Nat×Nat)
variable{ι:mD}
inductive VRel(w:World)(I:Nat->Prop)(ι:mD)(H:aF):Value->AV->Prop
 |any (v:Value):VRel w I ι H v .any
 |pv {v:Value} {p:PV} (h:PRep w I v p):VRel w I ι H v (.pv p)
 | ref {v:Value} {id g i k:Nat} (o:Ob) (hH:H.get id=A o) (hg:g<=o.g) (h1:v.oneCell'=T)
   (h:o.g=g->0<o.sz/\∃b cap,ι id=A (b,cap)/\v=.pointer (A ⟨b,i*o.sz+k,ζ⟩)):VRel w I ι H v (.ref id g i k)
 | pad {rows:List (List PV)} {i k:Nat} (b off cap sz:Nat) (h:PRep w I (.slice (A ⟨b,off,ζ⟩) (C rows) cap) (.sl rows)) (hsz:0 < sz) (hlen:∀ r∈rows,C r=sz)
   (cs:Nat->Nat->Value) (hI:I b)
   (hc:∀(i:Nat) (r:List PV),rows[i]?=A r->∀(k:Nat) (p:PV),r[k]?=A p->w.cell? ⟨b,off+i*sz+k,ζ⟩=A (cs i k))
   (hp:∀(i:Nat) (r:List PV),rows[i]?=A r->∀(k:Nat) (p:PV),r[k]?=A p->PRep w I (cs i k) p) :
   VRel w I ι H (.pointer (A ⟨b,off+i*sz+k,ζ⟩)) (.pad rows i k)
 | osl {v:Value} {id g off len:Nat} (o:Ob) (hH:H.get id=A o) (hg:g<=o.g) (h1:v.oneCell'=T)
   (h:o.g=g->0<o.sz/\off+len<=C o.rows /\
    ((∃b cap oo,ι id=A (b,cap)/\v=.slice (A ⟨b,oo,ζ⟩) len (cap - off)/\(off<cap\/off=0->oo=off*o.sz))\/(ι id=ζ/\v=.slice ζ 0 0/\off=0/\len=0))) :
   VRel w I ι H v (.osl id g off len)
 | clo {f:FuncId} {vs:Array Value} {caps:List AV} (hl:vs.size=C caps) (h:∀ (i:Nat) (v:Value) (a:AV),vs[i]?=A v->caps[i]?=A a->VRel w I ι H v a) :
   VRel w I ι H (.func (.func f) #[] vs) (.clo f caps)
 | bnd {f:FuncId} {vs:Array Value} {xs:List AV} (hl:vs.size=C xs) (h:∀ (i:Nat) (v:Value) (a:AV),vs[i]?=A v->xs[i]?=A a->VRel w I ι H v a) :
   VRel w I ι H (.func (.func f) vs #[]) (.bnd f xs)
 | agg {vs:Array Value} {cs:List AV} (hl:vs.size=C cs) (h1:∀ (i:Nat) (v:Value),vs[i]?=A v->v.oneCell'=T) (h:∀ (i:Nat) (v:Value) (a:AV),vs[i]?=A v->cs[i]?=A a->VRel w I ι H v a) :
   VRel w I ι H (.agg vs) (.agg cs)
 | tup {vs:Array Value} {cs:List AV} (hl:vs.size=C cs) (h:∀ (i:Nat) (v:Value) (a:AV),vs[i]?=A v->cs[i]?=A a->VRel w I ι H v a) :
   VRel w I ι H (.tuple vs) (.tup cs)
 |mp {v:Value} {id g:Nat} (o:Ob) (hH:H.get id=A o) (hg:g<=o.g) (h1:v.oneCell'=T) (h:o.g=g->o.sz=0/\∃b,ι id=A (b,0)/\v=.map (A b)):VRel w I ι H v (.mp id g)
 |it {v:Value} {id g:Nat} (o:Ob) (hH:H.get id=A o) (hg:g<=o.g) (h1:v.oneCell'=T) (h:o.g=g->o.sz=0/\∃b,ι id=A (b,1)/\v=.pointer (A ⟨b,0,ζ⟩)):VRel w I ι H v (.it id g)
 |yld {v:Value} {id g:Nat} (o:Ob) (hH:H.get id=A o) (hg:g<=o.g) (h1:v.oneCell'=T) (h:o.g=g->o.sz=0/\∃b,ι id=A (b,2)/\v=.func (.yield b) #[] #[]):VRel w I ι H v (.yld id g)
 | osc {v:Value} {id g off len c:Nat} (o:Ob) (hH:H.get id=A o) (hg:g<=o.g) (h1:v.oneCell'=T)
   (h:o.g=g->0<o.sz/\len<=c /\
    ((∃b oo,ι id=A (b,off+c)/\v=.slice (A ⟨b,oo,ζ⟩) len c/\(0<c\/off=0->oo=off*o.sz))\/(ι id=ζ/\v=.slice ζ 0 0/\off=0/\len=0/\c=0))) :
   VRel w I ι H v (.osc id g off len c)
def OF(ι:mD)(H:aF)(b:Nat):Prop:=∃id o cap,H.get id=A o/\ι id=A (b,cap)
def Ar(w:World)(I:Nat->Prop)(ι:mD)(H:aF)(id:Nat)(o:Ob):Prop :=0<o.sz/\(∀r∈o.rows,C r=o.sz) /\
  ((∃ b cap cs,ι id=A (b,cap)/\w.heap[b]?=A (.cells cs o.ty (0,0))/\¬ I b/\cs.size=cap*o.sz/\C o.rows<=cap/\cap<=maxLen /\
      ∀(i:Nat) (r:List AV),o.rows[i]?=A r->∀(k:Nat) (a:AV),r[k]?=A a->∃v,cs[i*o.sz+k]?=A v/\v.oneCell'=T/\VRel w I ι H v a) \/
   (ι id=ζ/\o.rows=[]))
def Sg(w:World)(I:Nat->Prop)(ι:mD)(H:aF)(id:Nat)(o:Ob):Prop :=o.sz=0/\∃b es,ι id=A (b,0)/\w.heap[b]?=A (.map es o.ty)/\¬ I b/\es.size=C o.rows /\
  (∀(i:Nat) (e:MapEntry),es[i]?=A e->e.born<o.ty)/\(∀(i j:Nat) (e B:MapEntry),i<j->es[i]?=A e->es[j]?=A B->e.born<B.born) /\
  ∀(i:Nat) (r:List AV),o.rows[i]?=A r->∃e k a n,es[i]?=A e/\r=[k,a,n]/\VRel w I ι H e.key k/\VRel w I ι H e.val a/\VRel w I ι H (.int .i64 e.born) n
def Zu(w:World)(I:Nat->Prop)(ι:mD)(H:aF)(id:Nat)(o:Ob):Prop :=o.sz=0/\∃b bm since seen last,ι id=some (b,1)/\w.heap[b]?=some (.mapIter bm since seen last)/\¬ I b/\o.rows.length=seen.size+1 /\
  (∃m n k,o.rows[0]?=A [m,n,k]/\VRel w I ι H (.map bm) m/\VRel w I ι H (.int .i64 since) n/\VRel w I ι H (.int .i64 last) k) /\
  ∀(i:Nat) (r:List AV),o.rows[i+1]?=A r->∃x n,seen[i]?=A x/\r=[n]/\VRel w I ι H (.int .i64 x) n
def Se(w:World)(I:Nat->Prop)(ι:mD)(H:aF)(id:Nat)(o:Ob):Prop :=o.sz=0/\∃b x,ι id=A (b,2)/\w.heap[b]?=A (.loop x)/\¬ I b/\∀y ts r,o.rows=[[.raw y ts],r]->x=y/\∀(i t:Nat) (a:AV),ts[i]?=A t->r[i]?=A a->∃c,x.tmps[t]?=A c/\VRel w I ι H c a
def Rz(w:World)(I:Nat->Prop)(ι:mD)(H:aF)(id:Nat)(o:Ob):Prop :=o.sz=0/\∃b s p,ι id=A (b,1)/\w.heap[b]?=A (.stringIter s p)/\¬ I b/\C o.rows=1/\∃m k,o.rows[0]?=A [m,k]/\VRel w I ι H (.string s) m/\VRel w I ι H (.int .i64 p) k
def mC(w:World)(I:Nat->Prop)(ι:mD)(H:aF)(id:Nat)(o:Ob):Prop:=Ar w I ι H id o\/Sg w I ι H id o\/Zu w I ι H id o\/Se w I ι H id o\/Rz w I ι H id o
theorem mC.cells{w}{I}{ι}{H}{id}{o}(h:mC w I ι H id o)(hz:0<o.sz):Ar w I ι H id o:=by
 rcases h with h|h|h|h|h
 ·exact h
 all_goals(have:=h.1;omega)
theorem mC.map{w}{I}{ι}{H}{id}{o}(h:mC w I ι H id o)(B:o.sz=0){b}(a:ι id=some (b,0)):Sg w I ι H id o:=by
 rcases h with h|h|⟨_,d,_,_,_,_,c,_⟩|⟨_,d,_,c,_⟩|⟨_,d,_,_,c,_⟩
 .have:=h.1;omega
 ·exact h
 all_goals(rw[a]at c;cases c)
theorem mC.str{w}{I}{ι}{H}{id}{o}(h:mC w I ι H id o)(B:o.sz=0){b}(a:ι id=some (b,1)){m k}(g:o.rows[0]?=some [m,k]):Rz w I ι H id o:=by
 rcases h with h|⟨_,d,_,c,_⟩|⟨_,_,_,_,_,_,_,_,_,_,⟨_,_,_,c,_⟩,_⟩|⟨_,d,_,c,_⟩|h
 .have:=h.1;omega
 .rw[a]at c;cases c
 .rw[g]at c;cases c
 .rw[a]at c;cases c
 exact h
theorem mC.rec{w}{I}{ι}{H}{id}{o}(h:mC w I ι H id o)(B:o.sz=0){b}(a:ι id=some (b,2)):Se w I ι H id o:=by
 rcases h with h|⟨_,d,_,c,_⟩|⟨_,d,_,_,_,_,c,_⟩|h|⟨_,d,_,_,c,_⟩
 .have:=h.1;omega
 .rw[a]at c;cases c
 .rw[a]at c;cases c
 ·exact h
 rw[a]at c;cases c
theorem mC.block{w}{I}{ι}{H}{id b cap}{o}(h:mC w I ι H id o)(hi:ι id=some (b,cap)):b<w.heap.size/\¬ I b:=by rcases h with⟨_,_,⟨d,cap',cs,c,e,a,_⟩|h1⟩|⟨_,d,es,c,e,a,_⟩|⟨_,d,bm,since,seen,last,c,e,a,_⟩|⟨_,d,x,c,e,a,_⟩|⟨_,d,x,y,c,e,a,_⟩;all_goals grind
theorem mC.pos{w}{I}{ι}{H}{id b cap}{o}{cs}{t}{f}(h:mC w I ι H id o)(hi:ι id=some (b,cap))(B:w.heap[b]?=some (.cells cs t f)):0<o.sz:=by
 rcases h with h|⟨_,d,es,c,a,_⟩|⟨_,d,bm,since,seen,last,c,a,_⟩|⟨_,d,x,c,a,_⟩|⟨_,d,x,y,c,a,_⟩
 .exact h.1
 all_goals simp_all
theorem gi{rows rows'}(d:C rows=C rows')(h:∀(i:Nat) (r'),rows'[i]?=A r'->∃r,rows[i]?=A r/\C r=C r'/\∀(k:Nat) (a B:AV),r[k]?=A a->r'[k]?=A B->∀y c,B=.raw y c->a=.raw y c):
  ∀y c r',rows'=[[.raw y c],r']->∃r,rows=[[.raw y c],r]:=by
 rintro y c r' rfl
 match rows,d with
 | [a,b],_ =>
  have ⟨r,g,f,e⟩:=h 0 _ Z;cases g
  match a,f with
  | [x],_=>exact⟨b,by rw[e 0 x _ Z Z y _ rfl]⟩
theorem mC.keepG{z_:Nat->Prop}{D:mD}{id r4:Nat}{o o':Ob}(h:mC w I ι H id o)(τ:o'.sz=o.sz)(Q:o'.ty=o.ty)(R:C o'.rows=C o.rows)
  (K:∀y f_ r',o'.rows=[[.raw y f_],r']->∃r,o.rows=[[.raw y f_],r])
  (l:D r4=ι id) (u_:∀b cap,ι id=A (b,cap)->b<w.heap.size->w'.heap[b]?=w.heap[b]?/\(¬ I b->¬ z_ b))
  (L:∀(i:Nat) (r':List AV),o'.rows[i]?=A r'->∃r,o.rows[i]?=A r/\C r=C r'/\∀(k:Nat) (a J:AV),r[k]?=A a->r'[k]?=A J->∀v,VRel w I ι H v a->VRel w' z_ D H' v J):mC w' z_ D H' r4 o':=by
 rcases h with⟨p1,p2,⟨b,cap,cs,d,g,B,v_,e5,y_,o_⟩|⟨d,g⟩⟩|⟨p1,b,es,d,g,B,v_,e5,o_,e7⟩|⟨p1,b,bm,F,seen,P,d,g,B,v_,⟨m,n,q,u,d_,i_,W⟩,o_⟩|⟨p1,b,x,d,g,B,v_⟩|⟨p1,b,x,y,d,g,B,v_,m,n,u,d_,i_⟩
 .have ⟨G,E⟩:=u_ b cap d (Array.getElem?_eq_some_iff.1 g).1;refine .inl ⟨X,λr' A_=>?_,.inl ⟨b,cap,cs,l.trans d,F_,E B,F_,X,y_,λi r' c_ k J hk=>?_⟩⟩
  .have ⟨i,c_⟩:=s8.1 A_
   grind
  have ⟨r,p,s,f⟩:=L i r' c_;have u4:k<C r:=G_
  have ⟨v,u,d_,i_⟩:=o_ i r p k _ (n_ u4);exact⟨v,by rw[τ];exact u,d_,f k _ J (n_ u4) hk v i_⟩
 .have e_:o'.rows=[]:=eq_nil_of_length_eq_zero (by rw[R,g];rfl);exact .inl ⟨X,by rw[e_];simp,.inr ⟨l.trans d,e_⟩⟩
 .have ⟨G,E⟩:=u_ b 0 d (Array.getElem?_eq_some_iff.1 g).1;refine .inr (.inl ⟨X,b,es,l.trans d,by rw[Q];exact G.trans g,E B,X,by rw[Q];exact e5,o_,λi r' c_=>?_⟩);have ⟨r,p,s,f⟩:=L i r' c_;have ⟨e,k,a,n,u,d_,i_,W,z5⟩:=e7 i r p;subst d_
  match r',s with
  | [k',J,z],_=>exact⟨e,k',J,z,u,Z,f 0 k k' Z Z _ i_,f 1 a J Z Z _ W,f 2 n z Z Z _ z5⟩
 ·obtain ⟨G,E⟩:=u_ b 1 d (Array.getElem?_eq_some_iff.1 g).1;refine .inr (.inr (.inl ⟨by omega,b,bm,F,seen,P,l.trans d,G.trans g,E B,by omega,?_,λi r' c_=>?_⟩))
  .have j:0<C o'.rows:=X
   have ⟨r,p,s,f⟩:=L 0 _ (n_ j);rw[u]at p;obtain rfl:=Option.some.inj p;have e_:=n_ j;generalize o'.rows[0]=r' at s f e_
   match r',s with
   | [m',z,q'],_=>exact⟨m',z,q',e_,f 0 m m' Z Z _ d_,f 1 n z Z Z _ i_,f 2 q q' Z Z _ W⟩
  have ⟨r,p,s,f⟩:=L (i+1) r' c_;have ⟨x,n,y1,y2,y3⟩:=o_ i r p;subst y2
  match r',s with
  | [z],_=>exact⟨x,z,y1,Z,f 0 n z Z Z _ y3⟩
 .have ⟨G,E⟩:=u_ b 2 d (Array.getElem?_eq_some_iff.1 g).1;refine .inr (.inr (.inr (.inl ⟨X,b,x,l.trans d,G.trans g,E B,λy f_ r' hy=>?_⟩)));have ⟨r,hr⟩:=K y f_ r' hy;have ⟨p,s⟩:=v_ y f_ r hr;refine⟨p,λi t J ht ha=>?_⟩;have ⟨r0,u,d_,i_⟩:=L 1 r' (by rw[hy];rfl);rw[hr]at u;cases u;have j:i<C r:=by rw[d_];exact(m9.1 ha).1
  have ⟨c,c1,c2⟩:=s i t _ ht (n_ j);exact⟨c,c1,i_ i _ J (n_ j) ha c c2⟩
 have ⟨G,E⟩:=u_ b 1 d (Array.getElem?_eq_some_iff.1 g).1;refine .inr (.inr (.inr (.inr ⟨X,b,x,y,l.trans d,G.trans g,E B,X,?_⟩)));have j:0<C o'.rows:=X
 have ⟨r,p,s,f⟩:=L 0 _ (n_ j);rw[u]at p;obtain rfl:=Option.some.inj p;have e_:=n_ j;generalize o'.rows[0]=r' at s f e_
 match r',s with
 | [m',z],_=>exact⟨m',z,e_,f 0 m m' Z Z _ d_,f 1 n z Z Z _ i_⟩
theorem mC.keep{w w'}{I f}{ι c}{H H'}{id}{o}(h:mC w I ι H id o)
  (e:c id=ι id) (n:∀b cap,ι id=A (b,cap)->b<w.heap.size->w'.heap[b]?=w.heap[b]?/\(¬ I b->¬ f b))
  (m:∀r∈o.rows,∀a∈r,∀v,VRel w I ι H v a->VRel w' f c H' v a):mC w' f c H' id o :=
 h.keepG Z Z Z (λ_ _ r h=>⟨r,h⟩) e n λi r l=>⟨r,l,Z,λk a B g j v d=>by
  rw[g]at j;cases j;exact m r (m7 l) a (m7 g) v d⟩
def VG(I:Nat->Prop)(w:World):Prop:=∀p∈kh,I p.1/\∃cs t f,w.heap[p.1]?=A (.cells cs t f)/\p.2.holds cs
theorem VG.mono{w w'}{I a}(G:∀b,I b->w'.heap[b]?=w.heap[b]?)(F:∀b,I b->a b)(h:VG I w):VG a w':=λp c=>by
 have ⟨B,cs,t,f,D,E⟩:=h p c
 simp_all
structure Rel(I:Nat->Prop)(ι:mD)(H:aF)(w:World):Prop where
 imm:∀b,I b->b<w.heap.size
 obj:∀id o,H.get id=A o->mC w I ι H id o
 inj:∀id id' o o' b c c',H.get id=A o->H.get id'=A o'->ι id=A (b,c)->ι id'=A (b,c')->id=id'
 glob:VG I w
structure Step(I:Nat->Prop)(ι:mD)(H:aF)(w:World)(I':Nat->Prop)(ι':mD)(H':aF)(w':World):Prop where
 os:w'.os=w.os
 tape:w'.tape=w.tape
 output:w'.output=w.output
 size:w.heap.size<=w'.heap.size
 froz:∀a,a.block<w.heap.size->¬ OF ι H a.block->w'.frozen? a=w.frozen? a
 imm:∀b,I b->I' b
 immNew:∀b,I' b->I b\/OF ι H b\/w.heap.size<=b
 own:∀b,OF ι' H' b->OF ι H b\/w.heap.size<=b
 keep:∀b,b<w.heap.size->¬ OF ι H b->w'.heap[b]?=w.heap[b]?
 objs:∀id o,H.get id=A o->∃o',H'.get id=A o'/\o.g<=o'.g/\(o'.g=o.g->ι' id=ι id/\o'.sz=o.sz/\(0<o.sz->C o.rows<=C o'.rows))
theorem Rel.lt{I}{ι}{H}{w}(h:Rel I ι H w){b}(d:OF ι H b):b<w.heap.size :=let ⟨id,o,_,a,c⟩:=d;((h.obj _ o a).block c).1
theorem Rel.notImm{I}{ι}{H}{w}(h:Rel I ι H w){b}(d:OF ι H b):¬ I b :=let ⟨id,o,_,a,c⟩:=d;((h.obj _ o a).block c).2
theorem Step.refl(I)(ι)(H)(w):Step I ι H w I ι H w :=⟨Z,Z,Z,h_ _,λ_ _ _=>rfl,λ_ h=>h,λ_ h=>.inl h,λ_ h=>.inl h,λ_ _ _=>rfl,λ_ o h=>⟨o,h,h_ _,λ_=>⟨Z,Z,λ_=>h_ _⟩⟩⟩
theorem Step.trans{p l:Nat->Prop}{g e:mD}{i:aF}{k:World}(h:Step I ι H w p g H' w')(d:Step p g H' w' l e i k):
  Step I ι H w l e i k where
 os:=d.os.trans h.os
 tape:=d.tape.trans h.tape
 output:=d.output.trans h.output
 size:=Nat.le_trans h.size d.size
 froz:=λa q n=>(d.froz a (Nat.lt_of_lt_of_le q h.size) (λj=>by
  rcases h.own _ j with c|c;all_goals grind)).trans (h.froz a q n)
 imm:=λb f=>d.imm b (h.imm b f)
 immNew:=λb f=>by
  rcases d.immNew b f with c|c|c
  ·exact h.immNew b c
  ·exact .inr (h.own b c)
  exact .inr (.inr (Nat.le_trans h.size c))
 own:=λb f=>by
  rcases d.own b f with c|c
  ·exact h.own b c
  exact .inr (Nat.le_trans h.size c)
 keep:=λb f n=>by
  have m:¬ OF g H' b:=λj=>by
   rcases h.own b j with c|c;all_goals grind
  exact(d.keep b (Nat.lt_of_lt_of_le f h.size) m).trans (h.keep b f n)
 objs:=λid o j=>by
  obtain ⟨r,s,l1,D⟩:=h.objs id o j;obtain ⟨E,B,l2,k2⟩:=d.objs id r s
  grind
theorem VRel.mono'{E:Nat->Prop}{t:mD}(x:∀b,I b->w'.heap[b]?=w.heap[b]?)(y:∀b,I b->E b)
  (s:∀id o,H.get id=A o->∃J,H'.get id=A J/\o.g<=J.g/\(J.g=o.g->t id=ι id/\J.sz=o.sz/\(0<o.sz->C o.rows<=C J.rows)))
  {v:Value} {a:AV} (h:VRel w I ι H v a):VRel w' E t H' v a:=by
 induction h with
 |any v=>exact .any v
 |pv h=>exact .pv (h.mono x y)
 |ref o f d c h =>
  have ⟨J,e,l,k⟩:=s _ o f;refine .ref J e (Nat.le_trans d l) c λg=>?_
  grind
 |pad b D z Q h W u G F K L =>
  exact .pad b D z Q (h.mono x y) W u G (y b F) (λi r P k p B=>(cell?_of_heap (x b F)).trans (K i r P k p B)) (λi r P k p B=>(L i r P k p B).mono x y)
 |osl o f d c h =>
  have ⟨J,e,l,k⟩:=s _ o f;refine .osl J e (Nat.le_trans d l) c λg=>?_
  grind
 |clo q h n=>exact .clo q λi v a m j=>n i v a m j
 |bnd q h n=>exact .bnd q λi v a m j=>n i v a m j
 |agg q R h n=>exact .agg q R λi v a m j=>n i v a m j
 |tup q h n=>exact .tup q λi v a m j=>n i v a m j
 |mp o f d c h =>
  have ⟨J,e,l,k⟩:=s _ o f;refine .mp J e (Nat.le_trans d l) c λg=>?_
  grind
 |it o f d c h =>
  have ⟨J,e,l,k⟩:=s _ o f;refine .it J e (Nat.le_trans d l) c λg=>?_
  grind
 |yld o f d c h =>
  have ⟨J,e,l,k⟩:=s _ o f;refine .yld J e (Nat.le_trans d l) c λg=>?_
  grind
 |osc o f d c h =>
  have ⟨J,e,l,k⟩:=s _ o f;refine .osc J e (Nat.le_trans d l) c λg=>?_
  grind
section inv
variable{v:Value}
theorem VRel.pv_inv{p}(h:VRel w I ι H v (.pv p)):PRep w I v p:=by cases h with|pv h=>exact h
theorem VRel.bool_inv{b}(h:VRel w I ι H v (.pv (.bool b))):v=.bool b:=by cases h with|pv h=>cases h;rfl
theorem VRel.int_inv{k}{n}(h:VRel w I ι H v (.pv (.int k n))):v=.int k n:=by cases h with|pv h=>cases h;rfl
theorem VRel.str_inv{s}(h:VRel w I ι H v (.pv (.str s))):v=.string s:=by cases h with|pv h=>cases h;rfl
theorem VRel.nilp_inv(h:VRel w I ι H v (.pv .nilp)):v=.pointer ζ:=by cases h with|pv h=>cases h;rfl
theorem VRel.fn_inv{f}(h:VRel w I ι H v (.pv (.fn f))):v=.func (.func f) #[] #[]:=by cases h with|pv h=>cases h;rfl
end inv
theorem Step.imms{I e}{ι a}{H H'}{w w'}(h:Step I ι H w e a H' w')(c:Rel I ι H w):∀b,I b->w'.heap[b]?=w.heap[b]? :=λb d=>h.keep b (c.imm b d) (λf=>c.notImm f d)
theorem Step.glob{I c}{ι a}{H H'}{w w'}(h:Step I ι H w c a H' w')(b:Rel I ι H w):VG c w':=b.glob.mono (h.imms b) h.imm
theorem VRel.mono{w w'}{I d}{ι b}{H H'}(e:Rel I ι H w)(c:Step I ι H w d b H' w')
  {v} {a} (h:VRel w I ι H v a):VRel w' d b H' v a:=h.mono' (c.imms e) c.imm c.objs
end Go.Abs
end
section
namespace Go
def Oper.uponW(P:Program)(o:Oper)(a:Act)(next:Act->World->Prop)(Q:Exit->Act->World->Prop):Result Next->Prop
 |.ok (.value v) w'=>next (a.put o.dst v) w'
 |.ok .skip w'=>next (a.put o.dst undef) w'
 |.ok (.defer d) w'=>next ({a with defers:=d::a.defers}.put o.dst undef) w'
 | .ok (.enter f args) w'=>Calls P f args w' fun
   |.returned v,B=>next (a.put o.dst v) B
   |.panicked chain,B=>Q (.panic chain) a B
   |.outgrown,_=>LetsOut Q
 |.ok (.row row args) w'=>Rows P row args w' λv B=>next (a.put o.dst v) B
 | .ok (.round l f tmps assign body) w'=>RoundIn Fence.wide 0 P l f tmps assign body w' fun
   |.returned v,B=>next (a.put o.dst v) B
   |.panicked chain,B=>Q (.panic chain) a B
   |.outgrown,_=>LetsOut Q
 |.halt (.panic v) w'=>Q (.panic [{v,recovered:=η}]) a w'
 |_=>False
def Oper.wpW(P:Program)(o:Oper)(a:Act)(w:World)(next:Act->World->Prop)(Q:Exit->Act->World->Prop):Prop :=o.uponW P a next Q ((execOp a.eval o).run P w)
theorem Oper.uponW_enter(P)(o:Oper)(a)(b)(Q)(w)(f)(args):o.uponW P a b Q (.ok (.enter f args) w)=Calls P f args w fun
  |.returned v,c=>b (a.put o.dst v) c
  |.panicked d,c=>Q (.panic d) a c
  |.outgrown,_=>LetsOut Q:=rfl
def RF(ro:Option Nat):Fence:={Fence.wide with round:=ro}
def Oper.noDefer(o:Oper):Bool:=match o.op with|.defer _=>η|_=>T
theorem Oper.wpW_in{P:Program}{o:Oper}{a:Act}{w:World}{b:Act->World->Prop}{Q:Exit->Act->World->Prop}{ro:Option Nat}(j:ro=ζ\/o.noDefer=T)(h:o.wpW P a w b Q):o.wpIn (RF ro) 0 P a w b Q:=by
 refine⟨λ_ _=>trivial,?_⟩;have e:o.semAt (RF ro).round a.eval=execOp a.eval o:=by
  rcases j with rfl|j
  .rfl
  exact Oper.semAt_eq _ _ _ (λc n=>by rw[Oper.noDefer,n]at j;cases j)
 rw[e];unfold Oper.wpW at h;generalize (execOp a.eval o).run P w=r at h |-
 match r,h with
 |.ok (.value v) g,h=>exact h
 |.ok .skip g,h=>exact h
 |.ok (.defer d) g,h=>exact h
 |.ok (.enter f i) g,h=>exact⟨(λq=>by cases q),(callsIn_wide (n:=0)).2 h⟩
 |.ok (.row row i) g,h=>exact⟨(λq=>by cases q),λc k _=>let ⟨v,m,r,s⟩:=h c k;⟨v,m,r,stepsIn_wide.2 s⟩⟩
 |.ok (.round l f tmps assign body) g,h=>exact⟨(λq=>by cases q),h⟩
 |.halt (.panic v) g,h=>exact h
def AA:Code->Bool
 |.seq a b|.cond _ a b=>AA a&&AA b
 |.block _ c|.loop c|.scope c=>AA c
 |.region _ ops _=>ops.toList.all Oper.noDefer
 |.rangeFunc _ _ _ _=>η
 |_=>T
theorem O7{F}{n}{P}{Q}{a}{w}{c}(I:Nat->Act->World->Prop)(b)(h:I b a w)
  (d:∀i a w,I i a w->c.wpIn F n P (Exit.then (λB w'=>∃m,m<i/\I m B w') Q) a w):(Code.loop c).wpIn F n P Q a w:=by
 refine wpIn_loop (λa w=>∃n,I n a w) (λa w=>leastOf (λn=>I n a w)) ⟨b,h⟩ ?_;intro a w k;refine wpIn_mono (d _ a w (leastOf_spec k).1) ?_;intro e B w' g;cases e with
 |normal =>
  have ⟨i,j,f⟩:=g;exact show (∃n,I n _ _)/\leastOf _<leastOf _ from⟨⟨i,f⟩,Nat.lt_of_le_of_lt ((leastOf_spec ⟨i,f⟩).2 _ f) j⟩
 |exit id=>exact g
 |goto l=>exact g
 |ret=>exact g
 |panic ch=>exact g
 |outgrown=>exact g
end Go
namespace Go.Abs
def lS(w:World)(I:Nat->Prop)(ι:mD)(H:aF)(E:dG)(a:Act):Prop:=∀t v,E.get t=A v->∃c,a.tmps[t]?=A c/\VRel w I ι H c v
structure Entry where
 I:Nat->Prop
 ι:mD
 H:aF
 w:World
 ds:List Deferred
def mark(D:Nat):Deferred:={target:=.collected D,args:=#[]}
def uM(E:List Deferred)(F w:World)(ds:List Deferred):Prop:=∃B:List Nat,ds=B.map mark++E/\B.Nodup/\∀D∈B,F.heap.size<=D/\w.heap[D]?=A (.deferred (A []))
theorem uM.nil(a)(b w):uM a b w a:=⟨[],Z,nodup_nil,λD h=>by cases h⟩
structure St(G:Entry)(r4:Nat)(E:dG)(H:aF)(a:Act)(w:World):Prop where
 defers:uM G.ds G.w w a.defers
 size:a.tmps.size=r4
 rel:∃I ι,Rel I ι H w/\Step G.I G.ι G.H G.w I ι H w/\lS w I ι H E a
def fW(P:Program)(G0:aF)(r4:Nat)(c:Code)(Q:Exit->dG->aF->Prop)(E:dG)(H:aF):Prop :=∀G:Entry,G.H=G0->∀a w,St G r4 E H a w->∀ro,(ro=ζ\/AA c=T)->c.wpIn (RF ro) 0 P (λe a w=>∃E H,Q e E H/\St G r4 E H a w) a w
def cH(G0:aF)(E:dG)(H:aF)(E':dG)(H':aF):Prop:=∀G:Entry,G.H=G0->∀r4 a w,St G r4 E H a w->St G r4 E' H' a w
def aU(P:Program)(f:FuncId)(args:List AV)(H:aF)(Q:AV->aF->Prop):Prop :=∀(I:Nat->Prop) (ι:mD) (w:World) (vs:Array Value),Rel I ι H w->vs.size=C args->(∀(i:Nat) (v:Value) (a:AV),vs[i]?=A v->args[i]?=A a->VRel w I ι H v a) ->
  Calls P f vs w λe w'=>∃r H' D B v,e=.returned v/\Q r H'/\VRel w' D B H' v r/\Rel D B H' w'/\Step I ι H w D B H' w'
theorem aU.mono{P}{f}{args}{H}{Q c}(h:aU P f args H Q)(k:∀r H',Q r H'->c r H'):aU P f args H c :=λI ι w vs j i g=>(h I _ w _ j i g).mono λ_ _ ⟨r,H',d,b,v,e,q,a⟩=>⟨r,H',d,b,v,e,k _ _ q,a⟩
section control
variable{P:Program}{G0:aF}{r4:Nat}{Q:Exit->dG->aF->Prop}{E:dG}{H:aF}
theorem fW.mono{c}{b}(h:fW P G0 r4 c Q E H)(d:∀e E H,Q e E H->b e E H):fW P G0 r4 c b E H :=λG g a w i ro f=>wpIn_mono (h G g a w i _ f) λ_ _ _ ⟨E,H,q,s⟩=>⟨E,H,d _ _ _ q,s⟩
theorem fW.ent{c}{E'}{H'}(f:cH G0 E H E' H')(h:fW P G0 r4 c Q E' H'):fW P G0 r4 c Q E H :=λG b a w d ro e=>h G b a w (f G b r4 a w d) _ e
theorem aB(h:Q .normal E H):fW P G0 r4 .skip Q E H:=λ_ _ _ _ a _ _=>wpIn_skip ⟨E,H,h,a⟩
theorem Fq{l}(h:Q .normal E H):fW P G0 r4 (.label l) Q E H:=λ_ _ _ _ a _ _=>wpIn_label ⟨E,H,h,a⟩
theorem aC(h:Q .ret E H):fW P G0 r4 .ret Q E H:=λ_ _ _ _ a _ _=>wpIn_ret ⟨E,H,h,a⟩
theorem aP{id}(h:Q (.exit id) E H):fW P G0 r4 (.exit id) Q E H:=λ_ _ _ _ a _ _=>wpIn_exit ⟨E,H,h,a⟩
def zJ(K:dG->aF->Prop)(Q:Exit->dG->aF->Prop):Exit->dG->aF->Prop
 |.normal,E,H=>K E H
 |e,E,H=>Q e E H
theorem ME{x y}(h:fW P G0 r4 x (zJ (fW P G0 r4 y Q) Q) E H):fW P G0 r4 (.seq x y) Q E H:=by intro G c a w i ro b;have d:=b.imp id λh=>(l6 _ _▸h).1;have j:=b.imp id λh=>(l6 _ _▸h).2;refine wpIn_seq (wpIn_mono (h G c a w i _ d) ?_);rintro e B w' ⟨f,g,q,s⟩;cases e<;>first|exact q G c _ _ s _ j|exact⟨f,g,q,s⟩
theorem ui{x y}(E')(H')(h:fW P G0 r4 x (zJ (λa H1=>cH G0 a H1 E' H') Q) E H)(b:fW P G0 r4 y Q E' H'):fW P G0 r4 (.seq x y) Q E H :=ME (h.mono λe a H1 q=>by cases e<;>first|exact q|exact fW.ent q b)
def MI(id:Nat)(Q:Exit->dG->aF->Prop):Exit->dG->aF->Prop
 |.exit id',E,H=>cond (Nat.beq id' id) (Q .normal E H) (Q (.exit id') E H)
 |e,E,H=>Q e E H
theorem aE{id}{c}(h:fW P G0 r4 c (MI id Q) E H):fW P G0 r4 (.block id c) Q E H:=by
 intro G f a w j ro i;refine wpIn_block (wpIn_mono (h G f a w j _ i) ?_);rintro e B w' ⟨g,d,q,s⟩;cases e<;>try exact⟨g,d,q,s⟩
 simp only[MI]at q;simp[Exit.inBlock]
 split
 .rename_i b;subst b;rw[pW]at q;grind
 rename_i b;rw[kE b]at q;grind
abbrev NJ:PV:=.sat (·=.nilIface)
def cv:Value->Option AV
 |.int k n=>A (.pv (.int k n))
 |.bool b=>A (.pv (.bool b))
 |.string s=>A (.pv (.str s))
 |.pointer ζ=>A (.pv .nilp)
 |.slice ζ 0 0=>A (.pv (.sl []))
 |.nilFunc=>A (.pv .nilfn)
 |.map ζ=>A (.pv .nilm)
 |.nilIface=>A (.pv NJ)
 |_=>ζ
def aQ(E:dG):Operand->Option AV
 |.tmp t=>E.get t
 |.const v=>cv v
 |.func f=>A (.pv (.fn f))
 |.global _=>ζ
theorem UP{w}{I}{ι}{v}{a}(h:cv v=A a):VRel w I ι H v a/\v.oneCell'=T:=by
 unfold cv at h
 split at h<;>cases h
 .exact⟨.pv (.int _ _),Z⟩
 .exact⟨.pv (.bool _),Z⟩
 .exact⟨.pv (.str _),Z⟩
 .exact⟨.pv .nilp,Z⟩
 .exact⟨.pv .nilsl,Z⟩
 .exact⟨.pv .nilfn,Z⟩
 .exact⟨.pv .nilm,Z⟩
 exact⟨.pv (.sat Z Z),Z⟩
theorem aJ{w}{I}{ι}{a}{x}{v}(e:lS w I ι H E a)(h:aQ E x=A v):VRel w I ι H (a.eval x) v:=by
 cases x with
 |tmp t =>
  have ⟨c,b,d⟩:=e t v h
  simpa[Act.eval,b]using d
 |const c=>exact(UP h).1
 |func f=>simp[aQ,Option.some.injEq]at h;subst h;exact .pv (.fn f)
 |global g=>cases h
theorem Rb{c}{x y}{b}(n:aQ E c=A (.pv (.bool b)))(m:b=T->fW P G0 r4 x Q E H)(o:b=η->fW P G0 r4 y Q E H):
  fW P G0 r4 (.cond c x y) Q E H:=by
 intro G g a w f ro d;have ⟨I,ι,D,B,l⟩:=f.rel;have j:=aJ l n;have i:=j.bool_inv;have k:=d.imp id λh=>(l6 _ _▸h).1;have p:=d.imp id λh=>(l6 _ _▸h).2;exact wpIn_cond_split i (λe=>m e G g a w f _ k) (λe=>o e G g a w f _ p)
theorem bF{c}{σ:Type}(f_:σ->dG×aF)(D:σ->Prop)(f:σ->Nat)(d)(m:D d)(h:cH G0 E H (f_ d).1 (f_ d).2)
  (b:∀s,D s->fW P G0 r4 c (zJ (λE' H'=>∃B,D B/\f B<f s/\cH G0 E' H' (f_ B).1 (f_ B).2) Q) (f_ s).1 (f_ s).2):fW P G0 r4 (.loop c) Q E H:=by
 intro G i a w p ro l;refine O7 (I:=λn a w=>∃s,D s/\f s=n/\St G r4 (f_ s).1 (f_ s).2 a w) _ ⟨d,m,Z,h G i r4 a w p⟩ ?_;rintro n a w ⟨s,r,rfl,g⟩;refine wpIn_mono (b s r G i a w g _ l) ?_;rintro e F w' ⟨E',H',q,B⟩;cases e<;>try exact⟨E',H',q,B⟩
 have ⟨o,t,k,j⟩:=q;exact⟨f _,k,o,t,Z,j G i r4 _ _ B⟩
def nv(P:Program)(r4:Nat)(o:Oper)(E:dG)(H:aF)(R:AV->aF->Prop):Prop :=∀(a:Act) (w:World) (I:Nat->Prop) (ι:mD),True->a.tmps.size=r4->Rel I ι H w->lS w I ι H E a->∀(K:Act->World->Prop) (Q:Exit->Act->World->Prop),
  (∀c w' D B r H',R r H'->VRel w' D B H' c r->Rel D B H' w'->Step I ι H w D B H' w'->K (a.put o.dst c) w')->o.wpW P a w K Q
def cP(P:Program)(r4:Nat)(o:Oper)(E:dG)(H:aF)(v:AV)(H2:aF):Prop:=nv P r4 o E H (λr H'=>r=v/\H'=H2)
def nR(E:dG):Option Tmp->AV->dG
 |none,_=>E
 |some d,v=>(d,v)::E
def jI(r4:Nat):Option Tmp->Bool
 |none=>T
 |some d=>Nat.blt d r4
theorem lS.put{w w'}{I g}{ι b}{H'}{a}{c}{r}{d}(k:Rel I ι H w)(l:Step I ι H w g b H' w')
  (m:lS w I ι H E a) (n:VRel w' g b H' c r) (B:jI a.tmps.size d=T):lS w' g b H' (nR E d r) (a.put d c):=by
 cases d with
 |none=>exact λt v h=>let ⟨c,i,f⟩:=m t v h;⟨c,i,f.mono k l⟩
 |some d =>
  intro t v h;simp[nR]at h;have j:=by simpa[jI]using B
  by_cases e:d=t
  .subst e;rw[dG.get_cons_same]at h;cases h;exact⟨c,by simp[Act.put,j],n⟩
  rw[dG.get_cons_other _ _ e]at h;have ⟨o,i,f⟩:=m t v h;exact⟨o,by simp[Act.put,Array.getElem?_setIfInBounds_ne e,i],f.mono k l⟩
def AL(P:Program)(G0:aF)(r4:Nat)(ops:Array Oper)(K:dG->aF->Prop)(l:List Oper)(E:dG)(H:aF):Prop :=∀G:Entry,G.H=G0->∀a w,St G r4 E H a w->∀ro,(ro=ζ\/l.all Oper.noDefer=T)->∀Q:Exit->Act->World->Prop,(∀E H a w,K E H->St G r4 E H a w->Q .normal a w)->wpListIn (RF ro) 0 P ops Q l a w
theorem uq{ops}{K}(h:K E H):AL P G0 r4 ops K [] E H:=λ_ _ a w b _ _ _ c=>c _ _ a w h b
theorem BV{I}{ι}{H}{w}(e:Rel I ι H w){D}{x}(B:w.heap[D]?=some (.deferred x)):¬ OF ι H D:=by rintro⟨id,o,cap,d,hi⟩;rcases e.obj _ o d with⟨_,_,⟨b,cap',cs,c,a,_⟩|h1⟩|⟨_,b,es,c,a,_⟩|⟨_,b,bm,since,seen,last,c,a,_⟩|⟨_,b,x,c,a,_⟩|⟨_,b,x,y,c,a,_⟩;all_goals simp_all
theorem uM.step{g w w'}{I i}{ι b}{H H'}{a d}(n:Rel I ι H w)(m:Step I ι H w i b H' w')(h:uM a g w d):uM a g w' d:=by have ⟨k,l,j,f⟩:=h;refine⟨k,l,j,λD e=>⟨(f D e).1,?_⟩⟩;have c:=(f D e).2;rw[m.keep D (Array.getElem?_eq_some_iff.1 c).1 (BV n c)];exact c
theorem mN(a:Act)(d)(v):(a.put d v).defers=a.defers:=by cases d<;>rfl
theorem St.op{G}{a}{w}{o}{R}(d:St G r4 E H a w)(D:jI r4 o.dst=T)(h:nv P r4 o E H R){K}{Q}
  (m:∀r H' B w',R r H'->St G r4 (nR E o.dst r) H' B w'->K B w') {ro} (l:ro=ζ\/o.noDefer=T):o.wpIn (RF ro) 0 P a w K Q:=by
 refine Oper.wpW_in l ?_;have ⟨I,ι,i,e,j⟩:=d.rel;refine h a w I _ T_ d.size i j K Q ?_;intro c w' n f r H' p k g b;refine m r _ _ _ p ⟨?_,?_,n,f,g,e.trans b,lS.put i b j k (by rw[d.size];exact D)⟩
 .rw[mN];exact d.defers.step i b
 have:=d.size;cases o.dst<;>simpa[Act.put]using this
theorem nW{ro:Option Nat}{o}{rest}(h:ro=ζ\/(o::rest).all Oper.noDefer=T):(ro=ζ\/o.noDefer=T)/\(ro=ζ\/rest.all Oper.noDefer=T):=G_
theorem uo{ops}{K}{o}{rest}{R}(j:o.guard=ζ)(B:jI r4 o.dst=T)(h:nv P r4 o E H R)
  (f:∀r H',R r H'->AL P G0 r4 ops K rest (nR E o.dst r) H'):AL P G0 r4 ops K (o::rest) E H:=by
 intro G e a w i ro b Q g;refine wpListIn_plain j λF k=>?_;exact i.op B h (λr H' D w' d c=>k _ _ (f r _ d G e _ _ c _ (nW b).2 Q g)) (nW b).1
theorem ur{ops}{K}{o}{rest}{d:Tmp}{v}{H2}(a:o.guard=ζ)(B:o.dst=A d)(c:Nat.blt d r4=T)(h:cP P r4 o E H v H2)
  (e:AL P G0 r4 ops K rest ((d,v)::E) H2):AL P G0 r4 ops K (o::rest) E H :=
 uo a (by rw[B];exact c) h λr H' ⟨b,f⟩=>by subst b f;rw[B];exact e
theorem aGF{ops}{K}{o}{rest}{v}{H2}(d:o.guard=ζ)(B:o.dst=ζ)(h:cP P r4 o E H v H2)
  (a:AL P G0 r4 ops K rest E H2):AL P G0 r4 ops K (o::rest) E H :=
 uo d (by rw[B];rfl) h λr H' ⟨c,b⟩=>by subst c b;rw[B];exact a
def jZ(ops:List Oper)(j:Nat):Option Tmp:=(ops[j]?).bind (·.dst)
theorem DN{ops}{w}{I}{ι}{a}{j}{t}{b}(g:jZ ops.toList j=A t)(e:E.get t=A (.pv (.bool b)))(f:lS w I ι H E a):
  yielded ops a.tmps j=A b:=by
 have ⟨c,h,i⟩:=f t _ e;have d:=i.bool_inv;subst d;unfold yielded;have:=by simpa[jZ]using g
 rw[this];simp[h]
theorem aEw{ops}{K}{o}{rest}{j}{d}{t}{b}{R}(v:o.guard=A (j,d))(p:jZ ops.toList j=A t)
  (n:E.get t=A (.pv (.bool b))) (m:b=d) (B:jI r4 o.dst=T) (h:nv P r4 o E H R) (u:∀r H',R r H'->AL P G0 r4 ops K rest (nR E o.dst r) H'):AL P G0 r4 ops K (o::rest) E H:=by
 intro G s a w i ro f Q k;have q:=DN p n i.rel.choose_spec.choose_spec.2.2;unfold wpListIn;have e:Region.wanted o (yielded ops a.tmps)=T:=by simp[Region.wanted,v,q,m]
 simp[e,if_true];exact i.op B h (λr H' D w' l g=>u r _ l G s _ _ g _ (nW f).2 Q k) (nW f).1
def offB(want:Bool):AV->Bool
 |.pv (.bool b)=>b == !want
 |.tup []=>T
 |_=>η
theorem kg{ops}{w}{I}{ι}{a}{j}{t}(e:jZ ops.toList j=A t)(b:E.get t=A (.tup []))(d:lS w I ι H E a):yielded ops a.tmps j=ζ:=by
 have ⟨c,f,g⟩:=d t _ b;unfold yielded;have:=by simpa[jZ]using e
 rw[this];cases g;simp[f]
theorem YG{ops}{o}{w}{I}{ι}{a}{j}{d}{t}{x}(h:o.guard=A (j,d))(i:jZ ops.toList j=A t)(k:E.get t=A x)(g:offB d x=T)(l:lS w I ι H E a):
  Region.wanted o (yielded ops a.tmps)=η:=by
 unfold offB at g
 split at g
 .next b =>
  have f:=DN i k l;have e:b=!d:=F_
  subst e;cases d<;>simp[Region.wanted,h,f]
 .have f:=kg i k l;simp[Region.wanted,h,f]
 grind
theorem lS.skip{w}{I}{ι}:VRel w I ι H undef (.tup []):=.tup Z (λi v a h=>by grind)
theorem Al{ops}{K}{o}{rest}{j}{b}{t}{x}(r:o.guard=some (j,b))(m:jZ ops.toList j=some t)
  (l:E.get t=some x) (k:offB b x=true) (hd:jI r4 o.dst=true) (p:AL P G0 r4 ops K rest (nR E o.dst (.tup [])) H):AL P G0 r4 ops K (o::rest) E H:=by
 intro G n a w d ro f Q i;obtain ⟨I,q,g,e,h⟩:=d.rel;unfold wpListIn;have c:=YG r m l k h;simp[c,Bool.false_eq_true,if_false];refine⟨λ_ _=>trivial,?_⟩;refine p G n _ w ⟨?_,?_,I,q,g,e,lS.put g (Step.refl _ _ _ _) h lS.skip (by rw[d.size];exact hd)⟩ _ (nW f).2 Q i
 ·rw[mN];exact d.defers
 have:=d.size;cases o.dst<;>simpa[Act.put]using this
theorem Rq{ops}{K}{o}{rest}{j}{a}{t}{b}(f:o.guard=A (j,a))(d:jZ ops.toList j=A t)
  (c:E.get t=A (.pv (.bool b))) (g:b=!a) (B:jI r4 o.dst=T) (e:AL P G0 r4 ops K rest (nR E o.dst (.tup [])) H):AL P G0 r4 ops K (o::rest) E H :=
 Al f d c (by simp[offB,g]) B e
theorem rF{ops}{K}{o}{rest}{j}{a}{t}(d:o.guard=A (j,a))(e:jZ ops.toList j=A t)
  (b:E.get t=A (.tup [])) (B:jI r4 o.dst=T) (c:AL P G0 r4 ops K rest (nR E o.dst (.tup [])) H):AL P G0 r4 ops K (o::rest) E H :=
 Al d e b Z B c
theorem D3{id}{ops}(h:AL P G0 r4 ops (λE H=>Q .normal E H) ops.toList E H):fW P G0 r4 (.region id ops η) Q E H:=by intro G d a w b ro c;exact wpIn_region_list (h G d a w b _ c _ λE H a w q s=>⟨E,H,q,s⟩)
end control
end Go.Abs
end
section
namespace Go.Abs
section
variable{P:Program}{r4:Nat}{o:Oper}{E:dG}{H:aF}
theorem cP.of_run{v}(h:∀(a) (w) (I) (ι),Rel I ι H w->lS w I ι H E a->∃c,(execOp a.eval o).run P w=.ok (.value c) w/\VRel w I ι H c v):cP P r4 o E H v H:=by intro a w I ι _ _ d e K Q f;have ⟨c,b,g⟩:=h a w I _ d e;unfold Oper.wpW;rw[b];exact f c w I _ v H ⟨Z,Z⟩ g d (Step.refl _ _ _ _)
theorem iA{x}{v}(b:o.op=.move x)(c:aQ E x=A v):cP P r4 o E H v H :=.of_run λa w I ι B d=>⟨a.eval x,by simp[execOp,b],aJ d c⟩
theorem yI{x}{v}(b:o.op=.assign x)(c:aQ E x=A v):cP P r4 o E H v H :=.of_run λa w I ι B d=>⟨a.eval x,by simp[execOp,b],aJ d c⟩
theorem FC{c x y}{b}{v}(f:o.op=.pick c x y)(h:aQ E c=A (.pv (.bool b)))(g:aQ E (if b then x else y)=A v):cP P r4 o E H v H :=.of_run λa w I ι B d=>by
  have e:=(aJ d h).bool_inv;refine⟨_,by simp[execOp,f,e,asBool];rfl,?_⟩;cases b<;>exact aJ d g
theorem aBh{c x y}{v}(a:o.op=.pick c x y)(b:aQ E c=A (.pv (.bool T)))(B:aQ E x=A v):cP P r4 o E H v H :=FC a b F_
theorem aBi{c x y}{v}(a:o.op=.pick c x y)(b:aQ E c=A (.pv (.bool η)))(B:aQ E y=A v):cP P r4 o E H v H :=FC a b F_
theorem Wn{t}{x}{b}(c:o.op=.unOp .not t x)(d:aQ E x=A (.pv (.bool b))):cP P r4 o E H (.pv (.bool (!b))) H :=.of_run λa w I ι B e=>by
  have f:=(aJ e d).bool_inv;exact⟨_,by simp[execOp,c,f,Op.unary],.pv (.bool _)⟩
theorem Wo{t}{x}{k}{n m}(c:o.op=.unOp .neg t x)(d:aQ E x=A (.pv (.int k n)))(b:k.wrap (0 - n)=m):cP P r4 o E H (.pv (.int k m)) H :=.of_run λa w I ι B e=>by
  have f:=(aJ e d).int_inv;subst b;exact⟨_,by simp[execOp,c,f,Op.unary,Op.intArith],.pv (.int _ _)⟩
section ints
variable{t t':TypeId}{x y:Operand}{k:IntKind}{n m r:Int}
theorem mH{c}{a:Act}{w}(d:o.op=.binOp c t x y t')(e:a.eval x=.int k n):(execOp a.eval o).run P w=((binOp c t (.int k n) (a.eval y)).run P w).andThen λv w=>.ok (.value v) w:=by simp[execOp,d,e,eqGuard_at_int,Sem.run_bind,Sem.run_pure,Result.andThen_ok]
theorem dD(d:o.op=.binOp .add t x y t')(f:aQ E x=A (.pv (.int k n)))(e:aQ E y=A (.pv (.int k m)))(g:k.wrap (n+m)=r):cP P r4 o E H (.pv (.int k r)) H :=.of_run λa w I ι _ c=>by
  subst g;exact⟨_,by rw[mH d (aJ c f).int_inv,(aJ c e).int_inv];simp[binOp,Op.intArith],.pv (.int _ _)⟩
theorem dT(d:o.op=.binOp .sub t x y t')(f:aQ E x=A (.pv (.int k n)))(e:aQ E y=A (.pv (.int k m)))(g:k.wrap (n - m)=r):cP P r4 o E H (.pv (.int k r)) H :=.of_run λa w I ι _ c=>by
  subst g;exact⟨_,by rw[mH d (aJ c f).int_inv,(aJ c e).int_inv];simp[binOp,Op.intArith],.pv (.int _ _)⟩
theorem oZ(d:o.op=.binOp .mul t x y t')(f:aQ E x=A (.pv (.int k n)))(e:aQ E y=A (.pv (.int k m)))(g:k.wrap (n*m)=r):cP P r4 o E H (.pv (.int k r)) H :=.of_run λa w I ι _ c=>by
  subst g;exact⟨_,by rw[mH d (aJ c f).int_inv,(aJ c e).int_inv];simp[binOp,Op.intArith],.pv (.int _ _)⟩
theorem C8(d:o.op=.binOp .quo t x y t')(f:aQ E x=A (.pv (.int k n)))(e:aQ E y=A (.pv (.int k m)))(h:m≠0)(g:k.wrap (n.tdiv m)=r):cP P r4 o E H (.pv (.int k r)) H :=.of_run λa w I ι _ c=>by
  subst g;exact⟨_,by rw[mH d (aJ c f).int_inv,(aJ c e).int_inv];simp[binOp,Op.intDiv,h],.pv (.int _ _)⟩
theorem xF(d:o.op=.binOp .rem t x y t')(f:aQ E x=A (.pv (.int k n)))(e:aQ E y=A (.pv (.int k m)))(h:m≠0)(g:n.tmod m=r):cP P r4 o E H (.pv (.int k r)) H :=.of_run λa w I ι _ c=>by
  subst g;exact⟨_,by rw[mH d (aJ c f).int_inv,(aJ c e).int_inv];simp[binOp,Op.intDiv,h],.pv (.int _ _)⟩
theorem pS{c}(h:o.op=.binOp c t x y t')(d:c=.and\/c=.or\/c=.xor\/c=.andNot)(f:aQ E x=A (.pv (.int k n)))(i:aQ E y=A (.pv (.int k m)))(g:bits c k n m=r):cP P r4 o E H (.pv (.int k r)) H :=.of_run λa w I ι _ e=>by
  subst g;refine⟨.int k _,?_,.pv (.int _ _)⟩;rw[mH h (aJ e f).int_inv,(aJ e i).int_inv];rcases d with rfl|rfl|rfl|rfl<;>simp[binOp,intBits_and,intBits_or,intBits_xor,intBits_andNot]
theorem GR{e}(f:o.op=.binOp .shr t x y t')(g:aQ E x=A (.pv (.int k n)))(h:aQ E y=A (.pv (.int e m)))(j:0<=m)(d:m<=k.bits)(i:n / 2 ^ m.toNat=r):cP P r4 o E H (.pv (.int k r)) H :=.of_run λa w I ι _ c=>by
  subst i;refine⟨.int k _,?_,.pv (.int _ _)⟩;rw[mH f (aJ c g).int_inv,(aJ c h).int_inv];simp[binOp_shr,shift_shr k _ n m j d,Sem.run_pure,Result.andThen_ok]
theorem QG{e}(f:o.op=.binOp .shl t x y t')(g:aQ E x=A (.pv (.int k n)))(h:aQ E y=A (.pv (.int e m)))(j:0<=m)(d:m<=k.bits)(i:k.wrap (n*2 ^ m.toNat)=r):cP P r4 o E H (.pv (.int k r)) H :=.of_run λa w I ι _ c=>by
  subst i;refine⟨.int k _,?_,.pv (.int _ _)⟩;rw[mH f (aJ c g).int_inv,(aJ c h).int_inv];simp[binOp_shl,shift_shl k _ n m j d,Sem.run_pure,Result.andThen_ok]
theorem iK(d:o.op=.binOp .lss t x y t')(f:aQ E x=A (.pv (.int k n)))(e:aQ E y=A (.pv (.int k m))):cP P r4 o E H (.pv (.bool (θ (n<m)))) H :=.of_run λa w I ι _ c=>⟨_,by rw[mH d (aJ c f).int_inv,(aJ c e).int_inv];simp[binOp,Op.intCmp],.pv (.bool _)⟩
theorem mW(d:o.op=.binOp .leq t x y t')(f:aQ E x=A (.pv (.int k n)))(e:aQ E y=A (.pv (.int k m))):cP P r4 o E H (.pv (.bool (θ (n<=m)))) H :=.of_run λa w I ι _ c=>⟨_,by rw[mH d (aJ c f).int_inv,(aJ c e).int_inv];simp[binOp,Op.intCmp],.pv (.bool _)⟩
theorem K5(d:o.op=.binOp .gtr t x y t')(f:aQ E x=A (.pv (.int k n)))(e:aQ E y=A (.pv (.int k m))):cP P r4 o E H (.pv (.bool (θ (m<n)))) H :=.of_run λa w I ι _ c=>⟨_,by rw[mH d (aJ c f).int_inv,(aJ c e).int_inv];simp[binOp,Op.intCmp],.pv (.bool _)⟩
theorem jY(d:o.op=.binOp .geq t x y t')(f:aQ E x=A (.pv (.int k n)))(e:aQ E y=A (.pv (.int k m))):cP P r4 o E H (.pv (.bool (θ (m<=n)))) H :=.of_run λa w I ι _ c=>⟨_,by rw[mH d (aJ c f).int_inv,(aJ c e).int_inv];simp[binOp,Op.intCmp],.pv (.bool _)⟩
theorem kR(d:o.op=.binOp .eql t x y t')(f:aQ E x=A (.pv (.int k n)))(e:aQ E y=A (.pv (.int k m))):cP P r4 o E H (.pv (.bool (θ (n=m)))) H :=.of_run λa w I ι _ c=>⟨.bool _,by rw[mH d (aJ c f).int_inv,(aJ c e).int_inv];simp[binOp,Op.intCmp];all_goals rfl,.pv (.bool _)⟩
theorem K0(d:o.op=.binOp .neq t x y t')(f:aQ E x=A (.pv (.int k n)))(e:aQ E y=A (.pv (.int k m))):cP P r4 o E H (.pv (.bool (!θ (n=m)))) H :=.of_run λa w I ι _ c=>⟨.bool _,by rw[mH d (aJ c f).int_inv,(aJ c e).int_inv];simp[binOp,Op.intCmp];all_goals rfl,.pv (.bool _)⟩
end ints
section strings
variable{t t':TypeId}{x y:Operand}{s u r:B_}
theorem BP{c}{a:Act}{w}(d:o.op=.binOp c t x y t')(e:a.eval x=.string s)(f:a.eval y=.string u):(execOp a.eval o).run P w=((Op.stringOp c s u).run P w).andThen λv w=>.ok (.value v) w:=by simp only[execOp,d,e,f,eqGuard_at_string,Sem.run_bind,Sem.run_pure,Result.andThen_ok];cases c<;>simp[binOp]
theorem B0(s u:B_):(s.toList == u.toList)=θ (s=u):=by
 rw[<-beq_toListBytes];by_cases h:s=u
 .subst h;have:(s == s)=T:=by rw[beq_toListBytes];simp
  simp[this]
 have:(s == u)=η:=by
  rw[beq_toListBytes,ByteArray.toList_eq,ByteArray.toList_eq];cases e:(ν (μ s) == ν (μ u))with
  |false=>rfl
  |true =>
   exact absurd (by cases s;simp_all) h
 simp[this,h]
theorem BX(d:o.op=.binOp .eql t x y t')(e:aQ E x=A (.pv (.str s)))(f:aQ E y=A (.pv (.str u))):cP P r4 o E H (.pv (.bool (θ (s=u)))) H :=.of_run λa w I ι _ c=>⟨_,by rw[BP d (aJ c e).str_inv (aJ c f).str_inv];simp[Op.stringOp,B0,Sem.run_pure,Result.andThen_ok],.pv (.bool _)⟩
theorem Mp(d:o.op=.binOp .neq t x y t')(e:aQ E x=A (.pv (.str s)))(f:aQ E y=A (.pv (.str u))):cP P r4 o E H (.pv (.bool (!θ (s=u)))) H :=.of_run λa w I ι _ c=>⟨_,by rw[BP d (aJ c e).str_inv (aJ c f).str_inv];simp[Op.stringOp,B0,Sem.run_pure,Result.andThen_ok],.pv (.bool _)⟩
def jV(s u:B_):Bool:=Op.bytesLess s.toList u.toList
theorem iy(d:o.op=.binOp .lss t x y t')(e:aQ E x=A (.pv (.str s)))(f:aQ E y=A (.pv (.str u))):cP P r4 o E H (.pv (.bool (jV s u))) H :=.of_run λa w I ι _ c=>⟨_,by rw[BP d (aJ c e).str_inv (aJ c f).str_inv];rfl,.pv (.bool _)⟩
theorem Mq(d:o.op=.binOp .leq t x y t')(e:aQ E x=A (.pv (.str s)))(f:aQ E y=A (.pv (.str u))):cP P r4 o E H (.pv (.bool (jV s u||θ (s=u)))) H :=.of_run λa w I ι _ c=>⟨_,by rw[BP d (aJ c e).str_inv (aJ c f).str_inv];simp[Op.stringOp,B0,Sem.run_pure,Result.andThen_ok];rfl,.pv (.bool _)⟩
theorem KY(d:o.op=.binOp .geq t x y t')(e:aQ E x=A (.pv (.str s)))(f:aQ E y=A (.pv (.str u))):cP P r4 o E H (.pv (.bool (!(jV s u)))) H :=.of_run λa w I ι _ c=>⟨_,by rw[BP d (aJ c e).str_inv (aJ c f).str_inv];rfl,.pv (.bool _)⟩
theorem fJ(d:o.op=.binOp .add t x y t')(e:aQ E x=A (.pv (.str s)))(g:aQ E y=A (.pv (.str u)))(B:N s+N u<=9223372036854775807)(f:s++u=r):cP P r4 o E H (.pv (.str r)) H :=.of_run λa w I ι _ c=>⟨.string r,by
  subst f;rw[BP d (aJ c e).str_inv (aJ c g).str_inv];have:¬ (((N s+N u:Nat)) > ξ.max):=by simp[IntKind.max_i64];omega
  simp only[Op.stringOp,this,if_false,Sem.run_pure,Result.andThen_ok],.pv (.str _)⟩
end strings
section eqs
variable{t e:TypeId}{w:World}
theorem Z3{b c}(a:P.underlying t=A .bool):(binOp .eql t (.bool b) (.bool c)).run P w=.ok (.bool (b == c)) w:=by have h:=run_equalIn_bool w 9999 t b c a;simp[binOp];simp[Op.equal,Op.maxDepth,Sem.run_bind,h,Result.andThen_ok,Sem.run_pure]
theorem Z2{b c}(a:P.underlying t=A .bool):(binOp .neq t (.bool b) (.bool c)).run P w=.ok (.bool (!(b == c))) w:=by have h:=run_equalIn_bool w 9999 t b c a;simp[binOp];simp[Op.equal,Op.maxDepth,Sem.run_bind,h,Result.andThen_ok,Sem.run_pure]
theorem E5(d){p}(a:P.underlying t=A (.pointer e)):(Op.equalIn (d+1) t (.pointer p) (.pointer ζ)).run P w=.ok p.isNone w:=by cases p<;>simp[Op.equalIn,run_underlying a]
theorem SF{p}(b:P.underlying t=A (.pointer e)):(binOp .eql t (.pointer p) (.pointer ζ)).run P w=.ok (.bool p.isNone) w:=by have h:(Op.equalIn _ t _ _).run P w=.ok p.isNone w:=E5 9999 b;simp[binOp];simp[Op.equal,Op.maxDepth,Sem.run_bind,h,Result.andThen_ok,Sem.run_pure]
theorem SE{p}(b:P.underlying t=A (.pointer e)):(binOp .neq t (.pointer p) (.pointer ζ)).run P w=.ok (.bool (!p.isNone)) w:=by have h:(Op.equalIn _ t _ _).run P w=.ok p.isNone w:=E5 9999 b;simp[binOp];simp[Op.equal,Op.maxDepth,Sem.run_bind,h,Result.andThen_ok,Sem.run_pure]
end eqs
section bools
variable{t t':TypeId}{x y:Operand}{b c:Bool}
theorem iz(h:o.op=.binOp .eql t x y t')(g:P.underlying t=A .bool)(i:aQ E x=A (.pv (.bool b)))(j:aQ E y=A (.pv (.bool c))):cP P r4 o E H (.pv (.bool (b == c))) H :=.of_run λa w I ι _ e=>⟨.bool _,by
  have f:=(aJ e i).bool_inv;have k:=(aJ e j).bool_inv;simp[execOp,h,f,k,eqGuard_at_bool,Sem.run_bind,Sem.run_pure,Result.andThen_ok,Z3 g,Z2 _],.pv (.bool _)⟩
end bools
section ptrs
variable{t t' e:TypeId}{x y:Operand}{id g i k:Nat}{ob:Ob}
theorem pZ{w}{I}{ι}{v}(h:VRel w I ι H v (.ref id g i k))(G:H.get id=A ob)(F:ob.g=g):∃b cap,ι id=A (b,cap)/\v=.pointer (A ⟨b,i*ob.sz+k,ζ⟩):=by
 cases h with
 |ref J B D _ E =>
  simp_all
theorem SG{w}{I}{ι}{v}{id g i k}{ob}(h:VRel w I ι H v (.ref id g i k))(G:H.get id=A ob)(F:ob.g=g):0<ob.sz:=by
 cases h with
 |ref J B D _ E =>
  simp_all
theorem ON(j:o.op=.binOp .eql t x y t')(h:P.underlying t=A (.pointer e))(l:aQ E x=A (.ref id g i k))(f:H.get id=A ob)(d:ob.g=g)(m:aQ E y=A (.pv .nilp)):cP P r4 o E H (.pv (.bool η)) H :=.of_run λa w I ι _ c=>⟨.bool _,by
  have ⟨b,cap,_,p⟩:=pZ (aJ c l) f d;have n:=(aJ c m).nilp_inv;simp only[execOp,j,p,n,eqGuard_at_pointer,Sem.run_bind,Sem.run_pure,Result.andThen_ok,SF h,SE _];rfl,.pv (.bool _)⟩
theorem OO(f:o.op=.binOp .eql t x y t')(m:P.underlying t=A (.pointer e))(h:aQ E x=A (.pv .nilp))(j:aQ E y=A (.pv .nilp)):cP P r4 o E H (.pv (.bool T)) H :=.of_run λa w I ι _ c=>⟨.bool _,by
  have d:=(aJ c h).nilp_inv;have l:=(aJ c j).nilp_inv;simp only[execOp,f,d,l,eqGuard_at_pointer,Sem.run_bind,Sem.run_pure,Result.andThen_ok,SF m,SE _];rfl,.pv (.bool _)⟩
theorem cL(j:o.op=.nilCheck x)(l:aQ E x=A (.ref id g i k))(f:H.get id=A ob)(d:ob.g=g):cP P r4 o E H (.ref id g i k) H :=.of_run λa w I ι _ m=>by
  have c:=aJ m l;have ⟨b,cap,_,h⟩:=pZ c f d;exact⟨_,by simp[execOp,j,h],c⟩
end ptrs
theorem vV{x}{d}{n}{v}(g:o.op=.extract x n)(j:aQ E x=some (.tup d))(m:d[n]?=some v):cP P r4 o E H v H :=.of_run λa w I ι _ k=>by
  have h:=aJ k j;generalize f:a.eval x=c at h;cases h with
  | @tup e _ hl i =>
   have l:n<e.size:=by grind
   have b:=Array.getElem?_eq_getElem l;exact⟨e[n],by simp[execOp,g,f];simp[Instr.extract,b],i n _ v b m⟩
section calls
variable{x y:Operand}{u4 T2 e:TypeId}
theorem OP{s}(f:o.op=.call {callee:=.builtin .len,args:=#[x],argTypes:=#[u4]})(d:P.underlying u4=A .string)(g:aQ E x=A (.pv (.str s))):cP P r4 o E H (.pv (.int .i64 (N s))) H :=.of_run λa w I ι _ b=>⟨.int _ _,by
  have c:=(aJ b g).str_inv;simp[execOp,f,resolve,invoke,builtin,c,Builtin.len_,run_underlying d,goInt],.pv (.int _ _)⟩
theorem Jm{w}{I}{ι}{v}{rows}(h:VRel w I ι H v (.pv (.sl rows))):∃b cap,v=.slice b (C rows) cap:=by
 cases h with|pv h =>
 cases h with
 |nilsl=>simp_all
 |empsl a=>simp_all
 |sl b off cap sz _ cs B D E F G J=>simp_all
theorem lH{rows}(g:o.op=.call {callee:=.builtin .len,args:=#[x],argTypes:=#[u4]})(f:P.underlying u4=A (.slice e))(h:aQ E x=A (.pv (.sl rows))):cP P r4 o E H (.pv (.int .i64 (C rows))) H :=.of_run λa w I ι _ c=>⟨.int _ _,by
  have ⟨b,cap,d⟩:=Jm (aJ c h);simp[execOp,g,resolve,invoke,builtin,d,Builtin.len_,run_underlying f,goInt],.pv (.int _ _)⟩
theorem jX{w}{I}{ι}{v}{id g off len}{ob}(h:VRel w I ι H v (.osl id g off len))(F:H.get id=A ob)(G:ob.g=g):
  off+len<=C ob.rows/\((∃b cap a,ι id=A (b,cap)/\v=.slice (A ⟨b,a,ζ⟩) len (cap - off)/\(off<cap\/off=0->a=off*ob.sz))\/(ι id=ζ/\v=.slice ζ 0 0/\off=0/\len=0)):=by
 cases h with
 |osl J B D _ E =>
  simp_all
theorem qO{w}{I}{ι}{v}{id g off len}{ob}(h:VRel w I ι H v (.osl id g off len))(F:H.get id=A ob)(G:ob.g=g):0<ob.sz:=by
 cases h with
 |osl J B D _ E =>
  simp_all
theorem dR{id g off len}{ob}(d:o.op=.call {callee:=.builtin .len,args:=#[x],argTypes:=#[u4]})(f:P.underlying u4=A (.slice e))(j:aQ E x=A (.osl id g off len))(h:H.get id=A ob)(i:ob.g=g):cP P r4 o E H (.pv (.int .i64 len)) H :=.of_run λa w I ι _ l=>⟨.int _ _,by
  obtain ⟨_,⟨b,cap,oo,_,c,_⟩|⟨_,c,_,k⟩⟩:=jX (aJ l j) h i
  .simp[execOp,d,resolve,invoke,builtin,c,Builtin.len_,run_underlying f,goInt]
  simp[execOp,d,resolve,invoke,builtin,c,k,Builtin.len_,run_underlying f,goInt],.pv (.int _ _)⟩
theorem C9{k}{n m r}(f:o.op=.call {callee:=.builtin .min,args:=#[x,y],argTypes:=#[u4,T2]})(g:aQ E x=A (.pv (.int k n)))(h:aQ E y=A (.pv (.int k m)))(i:min n m=r):cP P r4 o E H (.pv (.int k r)) H :=.of_run λa w I ι _ c=>⟨.int k r,by
  have d:=(aJ c g).int_inv;have j:=(aJ c h).int_inv;have l:(if m<n then m else n)=min n m:=X
  simp[execOp,f,resolve,invoke,builtin,d,j,Builtin.min_,Builtin.min2,l,i],.pv (.int _ _)⟩
theorem Wp{k}{n m r}(g:o.op=.call {callee:=.builtin .max,args:=#[x,y],argTypes:=#[u4,T2]})(h:aQ E x=A (.pv (.int k n)))(i:aQ E y=A (.pv (.int k m)))(j:max n m=r):cP P r4 o E H (.pv (.int k r)) H :=.of_run λa w I ι _ c=>⟨.int k r,by
  have p:=(aJ c h).int_inv;have l:=(aJ c i).int_inv;have d:(if n<m then m else n)=max n m:=X
  have f:=d;simp[execOp,g,resolve,invoke,builtin,p,l,Builtin.max_,Builtin.max2,d,f,j],.pv (.int _ _)⟩
end calls
theorem eE{f_ u4}{x}{k b}{n r}{d}(f:o.op=.convert f_ u4 x)(B:P.underlying f_=A d)(g:P.underlying u4=A (.int b))(h:aQ E x=A (.pv (.int k n)))(i:b.wrap n=r):cP P r4 o E H (.pv (.int b r)) H :=.of_run λa w I ι _ c=>⟨.int _ r,by
  have e:=(aJ c h).int_inv;subst i;simp[execOp,f,e,convert,run_underlying B,run_underlying g,Conv.intToInt],.pv (.int _ _)⟩
theorem iC{f:FuncId}{c:Array Operand}{d:List AV}(p:o.op=.makeFunc (.func f) #[] c)(e:c.toList.mapM (aQ E)=A d):cP P r4 o E H (.clo f d) H :=.of_run λa w I r _ t=>by
  refine⟨.func (.func f) #[] (c.map a.eval),by simp[execOp,p,Instr.makeFunc],?_⟩;have j:∀(l:List Operand) (d:List AV),l.mapM (aQ E)=A d->C l=C d/\∀(i:Nat) (v:Value) (b:AV),(l.map a.eval)[i]?=A v->d[i]?=A b->VRel w I r H v b:=by
   intro l
   induction l with
   |nil=>simp_all
   |cons x l q =>
    intro d h;simp only[mapM_cons,Option.pure_def,Option.bind_eq_bind,Option.bind_eq_some_iff,Option.some.injEq]at h;obtain ⟨v0,s,k,m,rfl⟩:=h;have ⟨l1,n⟩:=q k m;refine⟨G_,?_⟩;intro i v b e g;cases i with
    |zero=>simp at e g;subst e g;exact aJ t s
    |succ i=>simp at e g;exact n i v b F_ g
  have ⟨m,u⟩:=j c.toList d e;exact .clo (by simpa using m) (λi v b e g=>u i v b (by simpa using e) g)
end
end Go.Abs
end
namespace Go.Abs
variable{P:Program}{u4 f_ e ty t:TypeId}{n off m m2 sz id g len cap l h b j i k d r4 bytes:Nat}{ob:Ob}{w w':World}{I:Nat->Prop}{rows ps:List (List PV)}{hi:Option Operand}{r r' s v0:AV}{v c z:Value}{ι:mD}{H H2 H' G0:aF}{cells args:List AV}{a:Act}{E E':dG}{G:Entry}{f:FuncId}{Q:Exit->dG->aF->Prop}{aps:List (Nat×AV)}{α:Type}{ops rest:List Oper}
section
def MH(w:World)(I:Nat->Prop)(ι:mD)(H:aF)(v:Value)(xs:List AV):Prop :=∃b o,v=.pointer (A ⟨b,o,ζ⟩)/\∀(j:Nat) (a:AV),xs[j]?=A a->∃c,w.cell? ⟨b,o+j,ζ⟩=A c/\c.oneCell'=T/\VRel w I ι H c a
section
theorem GM{id g i k}{ob}{r}(p:Rel I ι H w)(h:VRel w I ι H v (.ref id g i k))(e:H.get id=A ob)(l:ob.g=g)(hi:ob.rows[i]?=A r):
  MH w I ι H v (r.drop k):=by
 have ⟨b,cap,m,u⟩:=pZ h e l;obtain ⟨_,_,⟨B,cap',cs,d,q,D,E,F,G,t⟩|⟨d,_⟩⟩:=(p.obj _ _ e).cells (SG h e l)
 .rw[m]at d;cases d;refine⟨b,i*ob.sz+k,u,λj a f=>?_⟩;rw[getElem?_drop]at f;have ⟨c,o,n,s⟩:=t i r hi _ a f;refine⟨c,?_,n,s⟩;rw[cell_of_row w b _ _ _ _ q,Nat.add_assoc];exact o
 rw[m]at d;cases d
theorem XP{rows}{i k}{r}(h:VRel w I ι H v (.pad rows i k))(hi:rows[i]?=A r):MH w I ι H v ((r.drop k).map .pv):=by
 cases h with
 | pad b c cap l _ hsz hlen cs hb hc g =>
  refine⟨b,c+i*l+k,Z,λj a d=>?_⟩;rw[r8,getElem?_drop]at d;cases e:r[k+j]? with
  |none=>simp_all
  |some p =>
   rw[e]at d;cases d;have f:=g i r hi _ p e;exact⟨_,G_,f.oneCell,.pv f⟩
theorem Nm{P}{u4}{xs}{a}(k:MH w I ι H v xs)(j:∀w,(isAgg u4).run P w=.ok false w)(h:xs[0]?=some a):
  ∃c,(Instr.loadAt u4 v).run P w=.ok c w/\VRel w I ι H c a:=by
 obtain ⟨b,o,rfl,i⟩:=k;obtain ⟨c,f,_,g⟩:=i 0 a h;refine⟨c,?_,g⟩;simp[Nat.add_zero]at f;simp[Instr.loadAt,Instr.sureAddr,loadVar,j,f]
theorem Nl{xs cs:List AV}(E:MH w I ι H v xs)(p:∀w,(isAgg u4).run P w=.ok true w)(y:∀w,(sizeOf u4).run P w=.ok n w)(hcs:xs.take n=cs)(z:cs.length=n):
  ∃c,(Instr.loadAt u4 v).run P w=.ok c w/\VRel w I ι H c (.agg cs):=by
 obtain ⟨b,o,rfl,B⟩:=E;have t:∀j,j<n->∃c,w.cell? ⟨b,o+j,none⟩=some c/\c.oneCell'=true/\∀a,cs[j]?=some a->VRel w I ι H c a:=by
  intro j r;have m:j<cs.length:=by omega
  have e:xs[j]?=some cs[j]:=by
   have x:cs[j]?=some cs[j]:=n_ m;have q:(xs.take n)[j]?=some cs[j]:=F_
   rw[List.getElem?_take,b6 r]at q;exact q
  have ⟨c,x,q,i_⟩:=B j _ e;refine⟨c,x,q,λa p=>?_⟩;rw[n_ m]at p;cases p;exact i_
 let f:Nat->Value:=λj=>if h:j<n then(t j h).choose else undef
 have d_:∀j (h:j<n),w.cell? ⟨b,o+j,none⟩=some (f j)/\(f j).oneCell'=true/\∀a,cs[j]?=some a->VRel w I ι H (f j) a:=by
  grind
 let l:List Value:=(List.range n).map f
 have k:l.length=n:=by simp[l]
 have s:∀j u,l[j]?=some u->j<n/\u=f j:=by
  grind
 have g:(loadCells ⟨b,o,none⟩ n).run P w=.ok l.toArray w:=by
  have:=run_loadCells_list (P:=P) w ⟨b,o,none⟩ l (λj u D=>by
   obtain ⟨r,rfl⟩:=s j u D;rw[Addr.add_lit];exact(d_ j r).1)
  rwa [k]at this
 refine⟨.agg l.toArray,by simp[Instr.loadAt,Instr.sureAddr,loadVar,p,y,g],.agg (by simp[k,z]) ?_ ?_⟩;all_goals grind
end
section
variable{o:Oper}{x y:Operand}
theorem tJ{xs:List AV}{v}(e:o.op=.load u4 x)
  (b:∀(a) (w) (I) (ι),Rel I ι H w->lS w I ι H E a->∃c,(Instr.loadAt u4 (a.eval x)).run P w=.ok c w/\VRel w I ι H c v):cP P r4 o E H v H :=
 .of_run λa w I ι f g=>by
  have ⟨c,d,h⟩:=b a w I _ f g;exact⟨c,by simp[execOp,e,d],h⟩
theorem aX{id g i k}{ob}{r}{v}(d:o.op=.load u4 x)(b:∀w,(isAgg u4).run P w=.ok false w)(e:aQ E x=some (.ref id g i k))(c:H.get id=some ob)(j:ob.g=g)
  (hi:ob.rows[i]?=A r) (hk:r[k]?=A v):cP P r4 o E H v H :=
 tJ (xs:=r.drop k) d λa w I ι f h=>Nm (GM f (aJ h e) c j hi) b F_
theorem eF{rows}{i k}{r}{p}(c:o.op=.load u4 x)(b:∀w,(isAgg u4).run P w=.ok false w)(d:aQ E x=some (.pad rows i k))(hi:rows[i]?=some r)(hk:r[k]?=some p):cP P r4 o E H (.pv p) H :=tJ (xs:=(r.drop k).map .pv) c λa w I ι hr e=>Nm (XP (aJ e d) hi) b G_
theorem aW{n id g i k}{ob}{r cs}(h:o.op=.load u4 x)(c:∀w,(isAgg u4).run P w=.ok true w)(p:∀w,(sizeOf u4).run P w=.ok n w)(j:aQ E x=some (.ref id g i k))(d:H.get id=some ob)(q:ob.g=g)
  (hi:ob.rows[i]?=A r) (e:(r.drop k).take n=cs) (f:C cs=n):cP P r4 o E H (.agg cs) H :=
 tJ (xs:=r.drop k) h λa w I ι l m=>Nl (GM l (aJ m j) d q hi) c p e f
theorem fF{n}{rows}{i k}{r}{cs}(f:o.op=.load u4 x)(d:∀w,(isAgg u4).run P w=.ok true w)(l:∀w,(sizeOf u4).run P w=.ok n w)(g:aQ E x=some (.pad rows i k))(hi:rows[i]?=some r)
  (j:((r.drop k).map AV.pv).take n=cs) (e:C cs=n):cP P r4 o E H (.agg cs) H :=
 tJ (xs:=(r.drop k).map .pv) f λa w I ι hr h=>Nl (XP (aJ h g) hi) d l j e
def cE(P:Program)(f_ f off:Nat):Prop:=∃fs B n,P.underlying f_=A (.struct fs)/\fs[f]?=A B/\B.offset=off/\∀w,(sizeOf B.type).run P w=.ok (n+1) w
theorem oO{off:TypeId}{id g i k k2 f}{ob}(m:o.op=.fieldAddr f_ x f)(s:cE P f_ f off)
  (u:aQ E x=A (.ref id g i k)) (e:H.get id=A ob) (l:ob.g=g) (F:k+off=k2):cP P r4 o E H (.ref id g i k2) H :=
 .of_run λa w I ι G v=>by
  have ⟨fs,D,n,r,z,B,p⟩:=s;have h:=aJ v u;generalize q:a.eval x=c at h;obtain ⟨b,j,t,rfl⟩:=pZ h e l;refine⟨.pointer _,?_,.ref _ e X Z λ_=>⟨SG h e l,b,j,t,Z⟩⟩;simp[execOp,m,q];simp[Instr.fieldAt,run_underlying r,z,Instr.sureAddr,fieldPlace,p,Addr.add_lit,Nat.add_assoc]
theorem VY{off:TypeId}{rows}{i k k2 f}(p:o.op=.fieldAddr f_ x f)(u:cE P f_ f off)
  (t:aQ E x=A (.pad rows i k)) (G:k+off=k2):cP P r4 o E H (.pad rows i k2) H :=
 .of_run λa w I ι J v=>by
  have ⟨fs,F,n,s,z,B,m⟩:=u;have h:=aJ v t;generalize q:a.eval x=c at h;cases h with
  |pad b off cap sz D g e cs r j l =>
   refine⟨.pointer _,?_,.pad b _ _ _ D g e _ r j l⟩;simp[execOp,p,q];simp[Instr.fieldAt,run_underlying s,z,Instr.sureAddr,fieldPlace,m,Addr.add_lit,Nat.add_assoc]
theorem VV{e}{rows}{r}{o_}{n}{m sz}(K:o.op=.indexAddr u4 x y)(F:P.underlying u4=A (.slice e))(e_:∀w,(sizeOf e).run P w=.ok sz w)
  (G:aQ E x=A (.pv (.sl rows))) (R:aQ E y=A (.pv (.int o_ n))) (Q:0<=n) (W:n.toNat=m) (hi:rows[m]?=A r) (hl:C r=sz):cP P r4 o E H (.pad rows m 0) H :=
 .of_run λa w I ι hr u=>by
  have h:=aJ u G;have B:=(aJ u R).int_inv;have l:=(m9.1 hi).1;have J:=m7 hi;generalize z:a.eval x=c at h;have L:=h.pv_inv;cases L with
  |nilsl=>simp at l
  |empsl a=>simp at l
  |sl b s q f _ v t g d i j k =>
   have p:f=sz:=F_
   subst p;refine⟨.pointer _,?_,.pad b s q f (.sl b s q f _ v t g d i j k) g d v t j k⟩;simp[execOp,K,z,B];have D:n<(C rows):=X
   simp[Instr.indexAt,run_underlying F,asIntOf,Q,D,e_,W,Addr.add_lit]
theorem VW{e}{r}{n:Int}(v:o.op=.indexAddr u4 x y)(L:P.underlying u4=A (.slice e))(s:∀w,(sizeOf e).run P w=.ok sz w)
  (F:aQ E x=A (.osl id g off len)) (d:H.get id=A ob) (l:ob.g=g) (i:ob.sz=sz) (G:aQ E y=A (.pv (.int r n))) (K:0<=n) (u:n.toNat=m) (hi:m<len) (j:off+m=m2):cP P r4 o E H (.ref id g m2 0) H :=
 .of_run λa w I ι J p=>by
  have h:=aJ p F;have z:=(aJ p G).int_inv;obtain ⟨h1,⟨b,f,oo,q,D,Q⟩|⟨_,_,_,q⟩⟩:=jX h d l
  .have c:off<f:=by
    obtain ⟨_,_,⟨R,cap',cs,B,W,a,e4,e5,e6,e7⟩|⟨B,_⟩⟩:=(J.obj id ob d).cells (qO h d l);all_goals grind
   have k:=Q (.inl c);subst k i j;refine⟨.pointer _,?_,.ref ob d X Z λ_=>⟨qO h d l,b,f,q,Z⟩⟩;simp only[execOp,v,D,z];have t:n<len:=X
   simp[Instr.indexAt,run_underlying L,asIntOf,K,t,s,u,Addr.add_lit,Nat.add_mul]
  omega
theorem eV{e}{q}{n}{m sz d id g i k k2}{ob}(r:o.op=.indexAddr u4 x y)(J:P.underlying u4=A (.array d e))(F:∀w,(sizeOf e).run P w=.ok sz w)
  (u:aQ E x=A (.ref id g i k)) (j:H.get id=A ob) (p:ob.g=g) (G:aQ E y=A (.pv (.int q n))) (D:0<=n) (t:n.toNat=m) (hi:m<d) (K:k+m*sz=k2):cP P r4 o E H (.ref id g i k2) H :=
 .of_run λa w I ι L l=>by
  have h:=aJ l u;have v:=(aJ l G).int_inv;have ⟨b,f,z,B⟩:=pZ h j p;refine⟨.pointer _,?_,.ref _ j X Z λ_=>⟨SG h j p,b,f,z,Z⟩⟩;simp[execOp,r,B,v];have s:n<d:=X
  simp[Instr.indexAt,run_underlying J,Instr.sureAddr,asIntOf,D,s,F,t,Addr.add_lit,Nat.add_assoc]
def aZ(s:B_)(m:Nat):Int:=((s.data.toList[m]?).getD 0).toNat
theorem cK{q}{n}{m}{s}{r}(e:o.op=.index u4 x y)(f:P.underlying u4=A .string)(g:aQ E x=A (.pv (.str s)))(h:aQ E y=A (.pv (.int q n)))(k:0<=n)(d:n.toNat=m)(hi:m<N s)(i:aZ s m=r):
  cP P r4 o E H (.pv (.int .u8 r)) H :=
 .of_run λa w I ι _ c=>⟨.int _ r,by
  have l:=(aJ c g).str_inv;have j:=(aJ c h).int_inv;have p:s[m]?=A (s.data.toList[m]' F_):=by
   rw[getElem?_pos s m _];rfl
  have b:aZ s m=((s.data.toList[m]' F_).toNat):=by
   unfold aZ
   simp_all
  rw[<-i,b];simp[execOp,e,l,j];simp[Instr.index,run_underlying f,asIntOf,k,d,p],.pv (.int _ _)⟩
def bnd(E:dG):Option Operand->Nat->Option Int
 |none,d=>A (d:Int)
 |some x,_=>match aQ E x with
  |some (.pv (.int _ n))=>A n
  |_=>ζ
theorem dc{w}{I}{ι}{a}{x}{d}{n}(b:lS w I ι H E a)(h:bnd E (A x) d=A n):∃k,a.eval x=.int k n:=by
 simp[bnd]at h
 split at h
 .rename_i k n' e;cases h;exact⟨k,(aJ b e).int_inv⟩
 grind
theorem nV{w}{I}{ι}{a}{p hi}{b}(q:lS w I ι H E a)(g:bnd E p 0=A (l:Int))(f:bnd E hi len=A (h:Int))(r:l<=h)(t:h<=cap):
  (Instr.sliceBounds b len cap (p.map a.eval) (hi.map a.eval) ζ).run P w=.ok (l,h,cap) w:=by
 have i:∀(k) (n y) (c),n<=y->(Instr.sliceBound _ y c).run P w=.ok n w:=λk n y c B=>by
  have:=run_sliceBound (P:=P) w k n y c X X
  simpa using this
 cases p with
 | none =>
  have v:l=0:=by simp[bnd]at g;omega
  subst v;cases hi with
  |none =>
   have j:h=len:=by simp[bnd]at f;omega
   subst j;simp[Instr.sliceBounds]
  |some y =>
   have ⟨k,e⟩:=dc q f;simp[Instr.sliceBounds,e,i _ _ _ _ t]
 | some x =>
  have ⟨D,s⟩:=dc q g;cases hi with
  |none =>
   have j:h=len:=by simp[bnd]at f;omega
   subst j;simp[Instr.sliceBounds,s,i _ _ _ _ r]
  |some y =>
   have ⟨k2,u⟩:=dc q f;simp[Instr.sliceBounds,s,u,i _ _ _ _ r,i _ _ _ _ t]
theorem bM{f hi}{s r}(n:o.op=.slice u4 x f hi ζ)(d:P.underlying u4=A .string)(j:aQ E x=A (.pv (.str s)))
  (b:bnd E f 0=A (l:Int)) (c:bnd E hi (N s)=A (h:Int)) (g:l<=h) (p:h<=N s) (m:s.extract l h=r):cP P r4 o E H (.pv (.str r)) H :=
 .of_run λa w I ι _ e=>⟨.string r,by
  have k:=(aJ e j).str_inv;have i:=nV (P:=P) (b:=η) e b c g p;subst m;simp[execOp,n,k];simp[run_sliceAt_string w u4 _ _ _ _ d,Instr.slice,run_underlying d,i],.pv (.str _)⟩
theorem PRep.cut{cs:Nat->Nat->Value}(m:I b)(g:0<sz)(d:∀r∈rows,C r=sz)(B:C rows<=cap)
  (F:∀(i:Nat) (r:List PV),rows[i]?=A r->∀(k:Nat) (p:PV),r[k]?=A p->w.cell? ⟨b,off+i*sz+k,ζ⟩=A (cs i k))
  (G:∀(i:Nat) (r:List PV),rows[i]?=A r->∀(k:Nat) (p:PV),r[k]?=A p->PRep w I (cs i k) p) (D:l<=h) (E:h<=C rows) :
  PRep w I (.slice (A (if cap=l then⟨b,off,ζ⟩else(⟨b,off,ζ⟩:Addr).add (l*sz))) (h - l) (cap - l)) (.sl ((rows.take h).drop l)):=by
 have j:C ((rows.take h).drop l)=h - l:=G_
 by_cases e:cap=l
 .have f:(rows.take h).drop l=[]:=eq_nil_of_length_eq_zero X;rw[b6 e,f];have n:h - l=C ([]:List (List PV)):=G_
  rw[n];exact .sl b off (cap - l) sz [] cs m g H_ H_ H_ H_
 rw[a8 e,Addr.add_lit,<-j];refine .sl b (off+l*sz) (cap - l) sz _ (λi k=>cs (l+i) k) m g (λr q=>d r (mem_of_mem_take (mem_of_mem_drop q))) X ?_ ?_;all_goals grind
theorem ay{n:Option Operand}{rows':List (List PV)}(F:o.op=.slice u4 x n hi ζ)(u_:P.underlying u4=A (.slice e))(G:∀w,(sizeOf e).run P w=.ok sz w)(A_:aQ E x=A (.pv (.sl rows)))
  (τ:∀r∈rows,C r=sz) (i:bnd E n 0=A (l:Int)) (g:bnd E hi (C rows)=A (h:Int)) (s:l<=h) (W:h<=C rows) (R:(rows.take h).drop l=rows'):cP P r4 o E H (.pv (.sl rows')) H :=
 .of_run λa w I ι _ J=>by
  have o_:=(aJ J A_).pv_inv;generalize y:a.eval x=c at o_;subst R;have k:P.elem u4=e:=by simp[Program.elem,u_]
  have d:P.underlying u4=A (.slice (P.elem u4)):=F_
  cases o_ with
  |nilsl =>
   have t:h=0:=F_
   have z:l=0:=X
   subst t z;have m:=nV (P:=P) (b:=T) (len:=0) (cap:=0) J i g s H_;refine⟨.slice ζ 0 0,?_,.pv (by simpa using PRep.nilsl)⟩;simp only[execOp,F,y];have:=run_slice_any (P:=P) w u4 ζ 0 0 d (n.map a.eval) (hi.map a.eval) ζ;simp[run_sliceAt_slice w u4 _ _ _ _ d,this,m,k,G,sliced]
  |empsl e_ =>
   have t:h=0:=F_
   have z:l=0:=X
   subst t z;have m:=nV (P:=P) (b:=T) (len:=0) (cap:=0) J i g s H_;refine⟨.slice (A e_) 0 0,?_,.pv (by simpa using PRep.empsl e_)⟩;simp only[execOp,F,y];have:=run_slice_any (P:=P) w u4 (A e_) 0 0 d (n.map a.eval) (hi.map a.eval) ζ;simp[run_sliceAt_slice w u4 _ _ _ _ d,this,m,k,G,sliced,Addr.add_zero']
  | sl b j f B _ f_ Q v p i_ L K =>
   by_cases u:rows=[]
   .subst u;have t:h=0:=F_
    have z:l=0:=X
    subst t z;have m:=nV (P:=P) (b:=T) (len:=0) (cap:=f) J i g s H_;refine⟨.slice (A ⟨b,j,ζ⟩) 0 f,?_,.pv (by simpa using PRep.sl b j f B [] f_ Q v H_ H_ H_ H_)⟩;simp only[execOp,F,y];have:=run_slice_any (P:=P) w u4 (A ⟨b,j,ζ⟩) 0 f d (n.map a.eval) (hi.map a.eval) ζ;simp[run_sliceAt_slice w u4 _ _ _ _ d,this,m,k,G,sliced,Addr.add_zero']
   have q:B=sz:=by
    have ⟨r,rs,e⟩:=exists_cons_of_ne_nil u
    simp_all
   subst q;have m:=nV (P:=P) (b:=T) (len:=C rows) (cap:=f) J i g s X;have D:=PRep.cut (l:=l) (h:=h) Q v p i_ L K s W;refine⟨_,?_,.pv D⟩;simp only[execOp,F,y];have:=run_slice_any (P:=P) w u4 (A ⟨b,j,ζ⟩) (C rows) f d (n.map a.eval) (hi.map a.eval) ζ;simp only[run_sliceAt_slice w u4 _ _ _ _ d,Sem.run_bind,this,Option.map_none,m,k,G,sliced,Result.andThen_ok,Sem.run_pure];by_cases v_:f=l<;>simp[v_]
theorem HV{r:Option Operand}(G:o.op=.slice u4 x r hi ζ)(e_:P.underlying u4=A (.slice e))(K:∀w,(sizeOf e).run P w=.ok sz w)(v_:aQ E x=A (.osl id g off len))
  (m:H.get id=A ob) (t:ob.g=g) (u:ob.sz=sz) (p:bnd E r 0=A (l:Int)) (q:bnd E hi len=A (h:Int)) (J:l<=h) (h2:h<=len) (y:off+l=j) (i_:h - l=i):cP P r4 o E H (.osl id g j i) H :=
 .of_run λa w I ι u_ D=>by
  have s:=aJ D v_;have ⟨τ,k⟩:=jX s m t;have n:P.elem u4=e:=by simp[Program.elem,e_]
  have f:P.underlying u4=A (.slice (P.elem u4)):=F_
  subst y i_ u;rcases k with⟨b,c,z,B,v,L⟩|⟨B,v,L,f_⟩
  .have hcap:off+len<=c:=by
    obtain ⟨_,_,⟨b',cap',cs,W,e2,e3,e4,e5,e6,e7⟩|⟨W,_⟩⟩:=(u_.obj id ob m).cells (qO s m t);all_goals grind
   have F:=nV (P:=P) (b:=T) (len:=len) (cap:=c - off) D p q J X;have d:=run_slice_any (P:=P) w u4 (A ⟨b,z,ζ⟩) len (c - off) f (r.map a.eval) (hi.map a.eval) ζ;refine⟨.slice (A ⟨b,if c - off=l then z else z+l*ob.sz,ζ⟩) (h - l) (c - (off+l)),?_,.osl ob m X Z λ_=>⟨qO s m t,X,.inl ⟨b,c,_,B,Z,λσ=>?_⟩⟩⟩
   .simp only[execOp,G,v];simp only[run_sliceAt_slice w u4 _ _ _ _ f,Sem.run_bind,d,Option.map_none,F,n,K,sliced,Result.andThen_ok,Sem.run_pure];by_cases o_:c - off=l
    .grind
    simp[o_,Addr.add_lit];omega
   grind
  subst L f_;have Q:h=0:=X
  have R:l=0:=X
  subst Q R;have F:=nV (P:=P) (b:=T) (len:=0) (cap:=0) D p q J H_;have d:=run_slice_any (P:=P) w u4 ζ 0 0 f (r.map a.eval) (hi.map a.eval) ζ;refine⟨.slice ζ 0 0,?_,.osl ob m X Z λ_=>⟨qO s m t,X,.inr ⟨B,Z,Z,Z⟩⟩⟩;simp only[execOp,G,v];simp[run_sliceAt_slice w u4 _ _ _ _ f,d,F,n,K,sliced]
end
end
section
theorem WE(w:World)(b)(c cs)(t)(d:w.heap[b]?=A (.cells c t (0,0)))(a):(w.setRow b cs).frozen? a=w.frozen? a:=by
 by_cases h:a.block=b
 .subst h;simp[World.frozen?,setRow_heap w _ _ _ t _ d,d]
 simp[World.frozen?,setRow_other w b _ _ h]
section
variable{ob ob':Ob}{cs0 cs':Array Value}
theorem Rel.update(g:Rel I ι H w)(u:H.get id=A ob)(d:ι id=A (b,cap))(E:w.heap[b]?=A (.cells cs0 ob.ty (0,0)))(hg:ob.g<=ob'.g)(m:ob'.sz=ob.sz)(d_:ob'.ty=ob.ty)
  (y:ob'.g=ob.g->C ob.rows<=C ob'.rows) (K:cs'.size=cap*ob.sz) (p:C ob'.rows<=cap) (G:∀r∈ob'.rows,C r=ob.sz)
  (l:∀(i:Nat) (r:List AV),ob'.rows[i]?=A r->∀(k:Nat) (a:AV),r[k]?=A a->∃v,cs'[i*ob.sz+k]?=A v/\v.oneCell'=T/\VRel w I ι H v a)
  (f_:H'.get id=A ob') (r4:∀j,j≠id->H'.get j=H.get j):Rel I ι H' (w.setRow b cs')/\Step I ι H w I ι H' (w.setRow b cs'):=by
 have i_:OF ι H b:=⟨id,ob,cap,u,d⟩;have n:Step I ι H w I ι H' (w.setRow b cs'):=by
  refine⟨Z,Z,Z,H_,λa _ _=>WE w b cs0 cs' _ E a,λ_ h=>h,λ_ h=>.inl h,?_,?_,?_⟩
  .rintro x ⟨j,o,c,f,J⟩;by_cases e:j=id
   .simp_all
   exact .inl ⟨j,o,c,(r4 j e).symm.trans f,J⟩
  .intro x _ z;exact setRow_other w b x cs' (λe=>z (e▸i_))
  grind
 refine⟨⟨λx z=>by simpa using g.imm x z,?_,?_,n.glob g⟩,n⟩
 .intro j o f;by_cases e:j=id
  .subst e;rw[f_]at f;cases f;obtain ⟨Q,p2,⟨b',cap',cs,s,e2,W,e4,e5,L,e6⟩|⟨s,_⟩⟩:=(g.obj j ob u).cells ((g.obj j ob u).pos d E)
   .rw[d]at s;cases s;refine .inl ⟨by rw[m];exact Q,by rw[m];exact G,.inl ⟨b,cap,cs',d,?_,W,by rw[m];exact K,p,L,?_⟩⟩
    .rw[d_];exact setRow_heap w b cs0 cs' ob.ty (0,0) E
    intro i r R k a u_;have ⟨v,z_,q2,A_⟩:=l i r R k a u_;exact⟨v,by rw[m];exact z_,q2,A_.mono g n⟩
   rw[d]at s;cases s
  rw[r4 j e]at f;exact(g.obj j o f).keep Z (λx c z _=>⟨setRow_other w b x cs' (λe_=>e (g.inj j id o ob b c cap f u (e_▸z) d)),λh=>h⟩) (λr _ a _ v y_=>y_.mono g n)
 intro j o_ o v_ x c c' f F J D;have t:∀j o,H'.get j=A o->∃o,H.get j=A o:=by
  intro j o f;by_cases e:j=id
  .exact⟨ob,e▸u⟩
  exact⟨o,(r4 j e).symm.trans f⟩
 have ⟨q,P⟩:=t j o f;have ⟨u4,B⟩:=t o_ v_ F;exact g.inj j o_ q u4 x c c' P B J D
theorem Rel.place(n:Rel I ι H w)(K:w'.os=w.os)(t:w'.tape=w.tape)(f:w'.output=w.output)(hw:w'.heap=w.heap.push (.cells cs' ob'.ty (0,0)))
  (z:∀o,H.get id=A o->o.g<ob'.g) (b:0<ob'.sz) (G:cs'.size=cap*ob'.sz) (i_:C ob'.rows<=cap) (D:cap<=maxLen) (e_:∀r∈ob'.rows,C r=ob'.sz)
  (q:∀(i:Nat) (r:List AV),ob'.rows[i]?=A r->∀(k:Nat) (a:AV),r[k]?=A a->∃v,cs'[i*ob'.sz+k]?=A v/\v.oneCell'=T/\VRel w I ι H v a)
  (r4:H'.get id=A ob') (s:∀j,j≠id->H'.get j=H.get j) :
  Rel I (λj=>if j=id then A (w.heap.size,cap)else ι j) H' w'/\Step I ι H w I (λj=>if j=id then A (w.heap.size,cap)else ι j) H' w':=by
 have B:w'.heap[w.heap.size]?=A (.cells cs' ob'.ty (0,0)):=F_
 have d:∀x,x<w.heap.size->w'.heap[x]?=w.heap[x]?:=λx u=>by grind
 have J:w'.heap.size=w.heap.size+1:=F_
 have p:Step I ι H w I (λj=>if j=id then A (w.heap.size,cap)else ι j) H' w':=by
  refine⟨K,t,f,X,λa f_ _=>?_,λ_ h=>h,λ_ h=>.inl h,?_,λx u _=>d x u,?_⟩
  .simp[World.frozen?,d a.block f_]
  .rintro x ⟨j,o,c,l,m⟩;by_cases e:j=id
   .simp only[e,if_true]at m;cases m;exact .inr (h_ _)
   simp only[e,if_false]at m;exact .inl ⟨j,o,c,(s j e).symm.trans l,m⟩
  intro j o l;by_cases e:j=id
  .subst e;have:=z o l;exact⟨ob',r4,X,λe=>by omega⟩
  exact⟨o,(s j e).trans l,h_ _,λ_=>⟨by simp[e],Z,λ_=>h_ _⟩⟩
 refine⟨⟨λx u=>by have:=n.imm x u;omega,?_,?_,p.glob n⟩,p⟩
 .intro j o l;by_cases e:j=id
  .subst e;rw[r4]at l;cases l;refine .inl ⟨b,e_,.inl ⟨w.heap.size,cap,cs',H_,B,λL=>Nat.lt_irrefl _ (n.imm _ L),G,i_,D,λi r L k a Q=>?_⟩⟩;have ⟨v,v_,u4,u_⟩:=q i r L k a Q;exact⟨v,v_,u4,u_.mono n p⟩
  rw[s j e]at l;exact(n.obj j o l).keep (by simp[e]) (λx c _ u=>⟨d x u,λh=>h⟩) (λr _ a _ v R=>R.mono n p)
 intro j E o W x c P l F m g;by_cases e:j=id<;>by_cases y:E=id
 .rw[e,y]
 .simp only[e,if_true]at m;simp only[y,if_false]at g;cases m;have:=n.lt ⟨E,W,P,(s E y).symm.trans F,g⟩;exact absurd this (Nat.lt_irrefl _)
 .simp only[e,if_false]at m;simp only[y,if_true]at g;cases g;have:=n.lt ⟨j,o,c,(s j e).symm.trans l,m⟩;exact absurd this (Nat.lt_irrefl _)
 simp only[e,if_false]at m;simp only[y,if_false]at g;exact n.inj j E o W x c P ((s j e).symm.trans l) ((s E y).symm.trans F) m g
theorem Rel.drawn{w'}(g:Rel I ι H w)(k:w'.os=w.os)(e:w'.tape=w.tape)(f:w'.output=w.output)(i:w'.heap=w.heap):Rel I ι H w'/\Step I ι H w I ι H w':=by have d:Step I ι H w I _ H _:=⟨k,e,f,F_,λa _ _=>by simp[World.frozen?,i],λ_ h=>h,λ_ h=>.inl h,λ_ h=>.inl h,λx _ _=>by rw[i],λ_ o h=>⟨o,h,h_ _,λ_=>⟨Z,Z,λ_=>h_ _⟩⟩⟩;refine⟨⟨λx m=>by rw[i];exact g.imm x m,λj o n=>?_,g.inj,d.glob g⟩,d⟩;exact(g.obj j o n).keep Z (λx c _ _=>⟨by rw[i],λh=>h⟩) (λr _ a _ v l=>l.mono g d)
theorem Rel.tick(g:Rel I ι H w)(L:H.get id=A ob)(Q:ob.g<ob'.g)(s:ob'.sz=ob.sz)(p:ob'.ty=ob.ty)(J:ob'.rows=ob.rows)
  (z:H'.get id=A ob') (m:∀j,j≠id->H'.get j=H.get j):Rel I ι H' w/\Step I ι H w I ι H' w:=by
 have d:Step I ι H w I ι H' w:=by
  refine⟨Z,Z,Z,h_ _,λa _ _=>rfl,λ_ h=>h,λ_ h=>.inl h,?_,λ_ _ _=>rfl,?_⟩
  .rintro x ⟨j,o,c,f,n⟩;by_cases e:j=id
   .subst e;exact .inl ⟨j,ob,c,L,n⟩
   exact .inl ⟨j,o,c,(m j e).symm.trans f,n⟩
  grind
 refine⟨⟨g.imm,?_,?_,d.glob g⟩,d⟩
 .intro j o f;by_cases e:j=id
  .subst e;rw[z]at f;cases f;refine(g.obj j ob L).keepG s p G_ (λ_ _ r h=>⟨r,F_⟩) Z (λx c _ _=>⟨Z,λh=>h⟩) (λi r hi=>⟨r,F_,Z,λk a P z m v K=>?_⟩);rw[z]at m;cases m;exact K.mono g d
  rw[m j e]at f;exact(g.obj j o f).keep Z (λx c _ _=>⟨Z,λh=>h⟩) (λr _ a _ v K=>K.mono g d)
 intro j B o D x c G f t n y;have l:∀j o,H'.get j=A o->∃o,H.get j=A o:=by
  grind
 have ⟨q,F⟩:=l j o f;have ⟨E,u⟩:=l B D t;exact g.inj j B q E x c G F u n y
theorem Rel.adopt(k:Rel I ι H w)(B:H.get id=ζ)(q:0<sz):
  Rel I (λj=>if j=id then ζ else ι j) ((id,⟨0,sz,ty,[]⟩)::H) w/\Step I ι H w I (λj=>if j=id then ζ else ι j) ((id,⟨0,sz,ty,[]⟩)::H) w:=by
 have z:aF.get ((id,⟨0,sz,ty,[]⟩)::H) id=A ⟨0,sz,ty,[]⟩:=by simp[aF.get,pW]
 have m:∀j,j≠id->aF.get ((id,⟨0,sz,ty,[]⟩)::H) j=H.get j:=λj e=>by simp[aF.get,kE (Ne.symm e)]
 have g:Step I ι H w I (λj=>if j=id then ζ else ι j) ((id,⟨0,sz,ty,[]⟩)::H) w:=by
  refine⟨Z,Z,Z,h_ _,λa _ _=>rfl,λ_ h=>h,λ_ h=>.inl h,?_,λ_ _ _=>rfl,?_⟩
  .rintro x ⟨j,o,c,d,l⟩;by_cases e:j=id
   .simp_all
   simp only[e,if_false]at l;exact .inl ⟨j,o,c,(m j e).symm.trans d,l⟩
  grind
 refine⟨⟨k.imm,?_,?_,g.glob k⟩,g⟩
 .intro j o d;by_cases e:j=id
  .subst e;rw[z]at d;cases d;exact .inl ⟨q,H_,.inr ⟨H_,Z⟩⟩
  rw[m j e]at d;exact(k.obj j o d).keep (by simp[e]) (λx c _ _=>⟨Z,λh=>h⟩) (λr _ a _ v u=>u.mono k g)
 intro j n o y x c t d p l i;by_cases e:j=id
 .simp_all
 by_cases s:n=id
 .simp_all
 simp only[e,if_false]at l;simp only[s,if_false]at i;exact k.inj j n o y x c t ((m j e).symm.trans d) ((m n s).symm.trans p) l i
end
def RD:AV->Option (List AV)
 |.agg cs=>A cs
 |.any=>ζ
 |.tup _=>ζ
 |v=>A [v]
theorem Dk(h:v.oneCell'=T):v.cells=#[v]:=by cases v<;>simp_all[Value.cells,Value.oneCell']
theorem N5{v:AV}(h:VRel w I ι H c v)(k:RD v=A cells):
  c.cells.size=C cells/\(∀u∈c.cells.toList,u.oneCell'=T)/\∀(j:Nat) (a:AV),cells[j]?=A a->∃u,c.cells[j]?=A u/\u.oneCell'=T/\VRel w I ι H u a:=by
 have f:∀(c:Value) (v:AV),c.oneCell'=T->VRel w I ι H c v->c.cells.size=C [v]/\(∀u∈c.cells.toList,u.oneCell'=T)/\∀(j:Nat) (a:AV),[v][j]?=A a->∃u,c.cells[j]?=A u/\u.oneCell'=T/\VRel w I ι H u a:=by
  intro c v d e;rw[Dk d]
  grind
 cases h with
 |any v=>cases k
 |pv h=>cases k;exact f c _ h.oneCell (.pv h)
 |ref o d e g i=>cases k;exact f c _ g (.ref o d e g i)
 |pad b m n t d e g q i y x=>cases k;exact f _ _ Z (.pad b m n t d e g q i y x)
 |osl o d e g i=>cases k;exact f c _ g (.osl o d e g i)
 |clo d e=>cases k;exact f _ _ Z (.clo d e)
 |bnd d e=>cases k;exact f _ _ Z (.bnd d e)
 | @agg r q d e g =>
  cases k;refine⟨d,λu l=>?_,λj a p=>?_⟩
  .have ⟨j,s⟩:=s8.1 l;exact e j u (by simpa[Value.cells]using s)
  have B:=(m9.1 p).1;have l:r[j]?=A (r[j]' X):=Array.getElem?_eq_getElem X;exact⟨_,l,e j _ l,g j _ a l p⟩
 |tup d e=>cases k
 |mp o d e g i=>cases k;exact f c _ g (.mp o d e g i)
 |it o d e g i=>cases k;exact f c _ g (.it o d e g i)
 |yld o d e g i=>cases k;exact f c _ g (.yld o d e g i)
 |osc o d e g i=>cases k;exact f c _ g (.osc o d e g i)
section
variable{o:Oper}{x y:Operand}
theorem get_cons_same(id)(ob)(H:aF):aF.get ((id,ob)::H) id=A ob:=by simp[aF.get,pW]
theorem get_cons_other{id j}(ob)(H:aF)(h:j≠id):aF.get ((id,ob)::H) j=H.get j:=by simp[aF.get,kE (Ne.symm h)]
theorem yk{v:AV}(h:Rel I ι H w)(g:VRel w I ι H c v)(l:RD v=A cells)(d:0<C cells)(B:H.get id=ζ):
  ∃b,VRel (w.alloc (.cells c.cells u4)) I b ((id,⟨0,C cells,u4,[cells]⟩)::H) (.pointer (A ⟨w.heap.size,0,ζ⟩)) (.ref id 0 0 0) /\
   Rel I b ((id,⟨0,C cells,u4,[cells]⟩)::H) (w.alloc (.cells c.cells u4))/\Step I ι H w I b ((id,⟨0,C cells,u4,[cells]⟩)::H) (w.alloc (.cells c.cells u4)):=by
 have ⟨D,E,F⟩:=N5 g l;have e:=Rel.place (id:=id) (cap:=1) (ob':=⟨0,C cells,u4,[cells]⟩) (cs':=c.cells) (w':=w.alloc (.cells c.cells u4)) h Z Z Z Z
  (λo J=>by simp_all) d G_ H_ (by simp[maxLen]) H_ (λi r hi k a G=>by
   grind) (get_cons_same _ _ _) (λj f=>get_cons_other _ _ f)
 refine⟨_,.ref _ (get_cons_same _ _ _) (h_ _) Z λ_=>⟨d,w.heap.size,1,H_,H_⟩,e.1,e.2⟩
theorem tL{v}{cells}{id n}(g:o.op=.box u4 x)(h:aQ E x=A v)(l:RD v=A cells)(i:C cells=n+1)(b:H.get id=ζ):
  cP P r4 o E H (.ref id 0 0 0) ((id,⟨0,n+1,u4,[cells]⟩)::H):=by
 intro a w I ι _ _ j k K Q f;obtain ⟨ι',e,c,d⟩:=yk j (aJ k h) l X b;rw[i]at e c d;unfold Oper.wpW execOp;simp[g,Instr.box,newVar,newRow,Sem.run_bind,run_newObj,Sem.run_pure,Result.andThen_ok];exact f _ _ I _ _ _ ⟨Z,Z⟩ e c d
def zv:Value->Option AV
 |.agg cs=>(cs.toList.mapM cv).map .agg
 |v=>cv v
theorem Xm{l:List _}{b}(h:l.mapM cv=A b):C l=C b/\∀(i:Nat) (v) (a),l[i]?=A v->b[i]?=A a->cv v=A a:=by
 induction l generalizing b with
 |nil=>simp_all
 |cons x l B =>
  simp[mapM_cons,Option.pure_def,Option.bind_eq_bind,Option.bind_eq_some_iff,Option.some.injEq]at h
  grind
theorem aAa{w}{I}{ι}{z}{v}(h:zv z=A v):VRel w I ι H z v:=by
 unfold zv at h
 split at h
 .rename_i f;cases e:f.toList.mapM cv with
  |none=>rw[e]at h;cases h
  | some g =>
   rw[e]at h;cases h;have ⟨j,c⟩:=Xm e;refine .agg X (λi u d=>?_) (λi u a d k=>(UP (c i u a F_ k)).1);have b:i<C g:=by
    have:=(Array.getElem?_eq_some_iff.1 d).1;have:=j;simp at this;omega
   exact(UP (H:=H) (w:=w) (I:=I) (ι:=ι) (c i u _ F_ (n_ b))).2
 exact(UP h).1
def cvN:Value->Option AV
 |.slice ζ 0 0=>A (.pv .nils)
 |v=>cv v
theorem cw{w}{I}{ι}{z}{v}(h:cvN z=A v):VRel w I ι H z v/\z.oneCell'=T:=by
 unfold cvN at h
 split at h
 .cases h;exact⟨.pv .nils,Z⟩
 exact UP h
def zvN:Value->Option AV
 |.agg cs=>(cs.toList.mapM cvN).map .agg
 |v=>cvN v
theorem Nk{l:List _}{b}(h:l.mapM cvN=A b):C l=C b/\∀(i:Nat) (v) (a),l[i]?=A v->b[i]?=A a->cvN v=A a:=by
 induction l generalizing b with
 |nil=>simp_all
 |cons x l B =>
  simp[mapM_cons,Option.pure_def,Option.bind_eq_bind,Option.bind_eq_some_iff,Option.some.injEq]at h
  grind
theorem Tf{w}{I}{ι}{z}{v}(h:zvN z=A v):VRel w I ι H z v:=by
 unfold zvN at h
 split at h
 .rename_i f;cases e:f.toList.mapM cvN with
  |none=>rw[e]at h;cases h
  | some g =>
   rw[e]at h;cases h;have ⟨j,c⟩:=Nk e;refine .agg X (λi u d=>?_) (λi u a d k=>(cw (c i u a F_ k)).1);have b:i<C g:=by
    have:=(Array.getElem?_eq_some_iff.1 d).1;have:=j;simp at this;omega
   exact(cw (H:=H) (w:=w) (I:=I) (ι:=ι) (c i u _ F_ (n_ b))).2
 exact(cw h).1
def ZV(z:Value)(v:AV):Prop:=zv z=A v\/zvN z=A v
theorem ZV.rel{w}{I}{ι}{z}{v}(h:ZV z v):VRel w I ι H z v:=h.elim aAa Tf
theorem Dj{z}{v}{cells}{id n}(i:o.op=.alloc u4)(f:∀w,(zeroValue u4).run P w=.ok z w)(j:ZV z v)(l:RD v=A cells)(g:C cells=n+1)(b:H.get id=ζ):
  cP P r4 o E H (.ref id 0 0 0) ((id,⟨0,n+1,u4,[cells]⟩)::H):=by
 intro a w I ι _ _ k he K Q h;obtain ⟨ι',e,c,d⟩:=yk k (ZV.rel j) l X b;rw[g]at e c d;unfold Oper.wpW execOp;simp[i,Instr.alloc,f,newVar,newRow,Sem.run_bind,run_newObj,Sem.run_pure,Result.andThen_ok];exact h _ _ I _ _ _ ⟨Z,Z⟩ e c d
theorem dZ{id sz}{ty}(f:o.op=.assign (.const (.slice ζ 0 0)))(b:H.get id=ζ)(hsz:Nat.blt 0 sz=T):
  cP P r4 o E H (.osl id 0 0 0) ((id,⟨0,sz,ty,[]⟩)::H):=by
 intro a w I ι _ _ g he K Q e;obtain ⟨d,c⟩:=Rel.adopt (sz:=sz) g b F_;unfold Oper.wpW execOp;simp[f,Sem.run_pure,Act.eval];exact e _ _ I _ _ _ ⟨Z,Z⟩ (.osl _ (get_cons_same _ _ _) (h_ _) Z λ_=>⟨F_,H_,.inr ⟨H_,Z,Z,Z⟩⟩) d c
theorem Jc{v:AV}{r r':List AV}(ho:o.op=.store u4 x y)(hr:Rel I ι H w)(R:VRel w I ι H (a.eval x) (.ref id g i k))(hyv:VRel w I ι H (a.eval y) v)(hc:RD v=some cells)
  (hs:∀w,(sizeOf u4).run P w=.ok n w) (f_:cells.length=n) (v_:H.get id=some ob) (hg:ob.g=g) (hi:ob.rows[i]?=some r) (hk:k+n<=r.length)
  (hr':r.take k++(cells++r.drop (k+n))=r') (L:H.set id {ob with rows:=ob.rows.set i r'}=H2) (K:Act->World->Prop) (Q:Exit->Act->World->Prop)
  (hkk:∀c w',Rel I ι H2 w'->Step I ι H w I ι H2 w'->K (a.put o.dst c) w'):o.wpW P a w K Q:=by
 obtain ⟨b,cap,h1,h3⟩:=pZ R v_ hg;obtain ⟨A_,c2,c3⟩:=N5 hyv hc;obtain ⟨p1,p2,⟨b',cap',d_,o_,e2,e3,e4,e5,e5',e6⟩|⟨o_,_⟩⟩:=(hr.obj id ob v_).cells (SG R v_ hg)
 ·rw [h1] at o_;cases o_;have hil:i < ob.rows.length:=(m9.1 hi).1;have hrl:r.length=ob.sz:=p2 r (m7 hi);have hfit:i*ob.sz+k+n<=d_.size:=by
   have:(i+1)*ob.sz<=cap*ob.sz:=Nat.mul_le_mul_right _ (by omega);rw[Nat.add_mul]at this;omega
  have F:(a.eval y).cells.toList.length=n:=by simp_all
  have c_:=run_storeCells_at P b (i*ob.sz+k) ob.ty (a.eval y).cells.toList 0 d_ w e2 (by omega) c2;simp only[Nat.add_zero,F]at c_;have z:r'.length=r.length:=by grind
  obtain ⟨e_,B⟩:=Rel.update (H':=H2) (ob':={ob with rows:=ob.rows.set i r'}) (cs':=(d_.toList.take (i*ob.sz+k)++(a.eval y).cells.toList++d_.toList.drop (i*ob.sz+k+n)).toArray)
   hr v_ h1 e2 (h_ _) Z Z (λ_=>by simp) (by grind) (by simp_all)
   (λq G=>by
    grind)
   (λl q G m W f=>by
    have hql:q.length=ob.sz:=by
     have hm:=m7 G;rcases List.mem_or_eq_of_mem_set hm with h|h
     ·exact p2 q h
     rw[h,z,hrl]
    have hk'l:m<ob.sz:=by grind
    simp only[List.getElem?_toArray];by_cases e:l=i
    ·subst e;have z_:q=r':=by
      rw[List.getElem?_set_self hil]at G;exact(Option.some.inj G).symm
     subst z_;rw[<-hr']at f;by_cases ha:m<k
     ·rw[List.getElem?_append_left (by simp;omega),List.getElem?_take,b6 ha]at f;obtain ⟨u,s,i_,t⟩:=e6 l r hi m W f;refine⟨u,?_,i_,t⟩;rw[List.append_assoc,List.getElem?_append_left (by simp;omega),List.getElem?_take,b6 (by omega)]
      simpa using s
     by_cases hb:m<k+n
     ·rw[List.getElem?_append_right (by simp;omega),List.getElem?_append_left (by simp;omega)]at f;have p:min k r.length=k:=by omega
      simp only[m_,p]at f;obtain ⟨u,s,i_,t⟩:=c3 (m - k) W f;refine⟨u,?_,i_,t⟩;rw[List.append_assoc,List.getElem?_append_right (by simp;omega),List.getElem?_append_left (by simp[A_,f_];omega)];have d:min (l*ob.sz+k) d_.size=l*ob.sz+k:=by omega
      simp only[m_,Array.length_toList,d];rw[show l*ob.sz+m - (l*ob.sz+k)=m - k by omega]
      simpa using s
     rw[List.getElem?_append_right (by simp;omega),List.getElem?_append_right (by simp;omega),List.getElem?_drop]at f;have p:min k r.length=k:=by omega
     simp only[m_,p,f_]at f;rw[show k+n+(m - k - n)=m by omega]at f;obtain ⟨u,s,i_,t⟩:=e6 l r hi m W f;refine⟨u,?_,i_,t⟩;rw[List.append_assoc,List.getElem?_append_right (by simp;omega),List.getElem?_append_right (by simp[A_,f_];omega),List.getElem?_drop];have d:min (l*ob.sz+k) d_.size=l*ob.sz+k:=by omega
     simp only[m_,Array.length_toList,d,F];rw[show l*ob.sz+k+n+(l*ob.sz+m - (l*ob.sz+k) - n)=l*ob.sz+m by omega]
     simpa using s
    rw[List.getElem?_set_ne (Ne.symm e)]at G;obtain ⟨u,s,i_,t⟩:=e6 l q G m W f;refine⟨u,?_,i_,t⟩;rcases Nat.lt_or_gt_of_ne e with y_|hgt
    ·have:(l+1)*ob.sz<=i*ob.sz:=Nat.mul_le_mul_right _ y_;rw[Nat.add_mul]at this;rw[List.append_assoc,List.getElem?_append_left (by simp;omega),List.getElem?_take,b6 (by omega)]
     simpa using s
    have:(i+1)*ob.sz<=l*ob.sz:=Nat.mul_le_mul_right _ hgt;rw[Nat.add_mul]at this;rw[List.append_assoc,List.getElem?_append_right (by simp;omega),List.getElem?_append_right (by simp[A_,f_];omega),List.getElem?_drop];have d:min (i*ob.sz+k) d_.size=i*ob.sz+k:=by omega
    simp only[m_,Array.length_toList,d,F];rw[show i*ob.sz+k+n+(l*ob.sz+m - (i*ob.sz+k) - n)=l*ob.sz+m by omega]
    simpa using s)
   (by rw[<-L];exact aF.get_set_same _ _ _) (λj hj=>by rw[<-L];exact aF.get_set_other _ _ hj)
  unfold Oper.wpW execOp;have u_:¬ ((a.eval y).cells.size≠n):=by simp[A_,f_]
  simp only[ho,h3,Instr.storeAt,Instr.sureAddr,storeVar,Sem.run_bind,Sem.run_pure,Result.andThen_ok,hs,Sem.run_ite,u_,if_false,c_];exact hkk _ _ e_ B
 rw[h1]at o_;cases o_
theorem NC{v}{cells r r'}{id g i k n}{ob}{H2}(D:o.op=.store u4 x y)(l:aQ E x=A (.ref id g i k))(j:aQ E y=A v)(q:RD v=A cells)
  (p:∀w,(sizeOf u4).run P w=.ok n w) (s:C cells=n) (u:H.get id=A ob) (B:ob.g=g) (hi:ob.rows[i]?=A r) (z:k+n<=C r)
  (b:r.take k++(cells++r.drop (k+n))=r') (d:H.set id {ob with rows:=ob.rows.set i r'}=H2):cP P r4 o E H .any H2:=by
 intro a w I ι _ _ m f K Q e;exact Jc D m (aJ f l) (aJ f j) q p s u B hi z b d K Q (λc w' t h=>e c _ I _ _ _ ⟨Z,Z⟩ (.any _) t h)
end
end
section
inductive Clo(H:aF):AV->Prop
 |any:Clo H .any
 |pv (p:PV):Clo H (.pv p)
 |pad (rows:List (List PV)) (i k:Nat):Clo H (.pad rows i k)
 |ref {id g i k:Nat} (h:(H.get id).isSome=T):Clo H (.ref id g i k)
 |osl {id g off len:Nat} (h:(H.get id).isSome=T):Clo H (.osl id g off len)
 |clo {f:FuncId} {caps:List AV} (h:∀a∈caps,Clo H a):Clo H (.clo f caps)
 |bnd {f:FuncId} {xs:List AV} (h:∀a∈xs,Clo H a):Clo H (.bnd f xs)
 |agg {cs:List AV} (h:∀a∈cs,Clo H a):Clo H (.agg cs)
 |tup {cs:List AV} (h:∀a∈cs,Clo H a):Clo H (.tup cs)
 |mp {id g:Nat} (h:(H.get id).isSome=T):Clo H (.mp id g)
 |it {id g:Nat} (h:(H.get id).isSome=T):Clo H (.it id g)
 |yld {id g:Nat} (h:(H.get id).isSome=T):Clo H (.yld id g)
 |raw (x:Go.Loop) (ts:List Nat):Clo H (.raw x ts)
 |osc {id g off len c:Nat} (h:(H.get id).isSome=T):Clo H (.osc id g off len c)
@[simp] theorem aFP(H):Clo H .any=True:=eq_true .any
@[simp] theorem aGA(H)(p):Clo H (.pv p)=True:=eq_true (.pv p)
@[simp] theorem aFO(H)(rows)(i k):Clo H (.pad rows i k)=True:=eq_true (.pad _ i k)
@[simp] theorem DY(H)(id g i k):Clo H (.ref id g i k)=((H.get id).isSome=T):=propext ⟨λh=>by cases h;assumption,.ref⟩
@[simp] theorem Zf(H)(id g i k):Clo H (.osl id g i k)=((H.get id).isSome=T):=propext ⟨λh=>by cases h;assumption,.osl⟩
@[simp] theorem aC7(H)(id g):Clo H (.mp id g)=((H.get id).isSome=T):=propext ⟨λh=>by cases h;assumption,.mp⟩
@[simp] theorem aC8(H)(id g):Clo H (.it id g)=((H.get id).isSome=T):=propext ⟨λh=>by cases h;assumption,.it⟩
@[simp] theorem Zc(H)(id g):Clo H (.yld id g)=((H.get id).isSome=T):=propext ⟨λh=>by cases h;assumption,.yld⟩
@[simp] theorem aFN(H)(x)(a):Clo H (.raw x a)=True:=eq_true (.raw x _)
@[simp] theorem Zg(H)(id g off len c):Clo H (.osc id g off len c)=((H.get id).isSome=T):=propext ⟨λh=>by cases h;assumption,.osc⟩
@[simp] theorem Zh(H)(f)(l):Clo H (.clo f l)=∀a∈l,Clo H a:=propext ⟨λh=>by cases h;assumption,.clo⟩
@[simp] theorem Zi(H)(f)(l):Clo H (.bnd f l)=∀a∈l,Clo H a:=propext ⟨λh=>by cases h;assumption,.bnd⟩
@[simp] theorem cz(H)(l):Clo H (.agg l)=∀a∈l,Clo H a:=propext ⟨λh=>by cases h;assumption,.agg⟩
@[simp] theorem Ze(H)(l):Clo H (.tup l)=∀a∈l,Clo H a:=propext ⟨λh=>by cases h;assumption,.tup⟩
def Sub(H' H:aF):Prop:=∀id o,H'.get id=A o->H.get id=A o
def dN(H:aF):Prop:=∀id o,H.get id=A o->∀r∈o.rows,∀a∈r,Clo H a
theorem VRel.restrict{w}{I}{ι}{H H'}(p:Sub H' H){v}{a}(h:VRel w I ι H v a):Clo H' a->VRel w I ι H' v a:=by
 induction h with
 |any v=>exact λ_=>.any v
 |pv h=>exact λ_=>.pv h
 | ref o e g f j =>
  intro c;cases c with
  |ref c =>
   have ⟨q,d⟩:=Option.isSome_iff_exists.1 c;have:=p _ _ d;rw[e]at this;cases this;exact .ref o d g f j
 |pad b off cap sz e g f D j E B=>exact λ_=>.pad b _ _ _ e g f D j E B
 | osl o e g f j =>
  intro c;cases c with
  |osl c =>
   have ⟨q,d⟩:=Option.isSome_iff_exists.1 c;have:=p _ _ d;rw[e]at this;cases this;exact .osl o d g f j
 |clo m h l =>
  intro c;cases c with|clo c=>exact .clo m λi v a n k=>l i v a n k (c a (m7 k))
 |bnd m h l =>
  intro c;cases c with|bnd c=>exact .bnd m λi v a n k=>l i v a n k (c a (m7 k))
 |agg m e h l =>
  intro c;cases c with|agg c=>exact .agg m e λi v a n k=>l i v a n k (c a (m7 k))
 |tup m h l =>
  intro c;cases c with|tup c=>exact .tup m λi v a n k=>l i v a n k (c a (m7 k))
 | mp o e g f j =>
  intro c;cases c with
  |mp c =>
   have ⟨q,d⟩:=Option.isSome_iff_exists.1 c;have:=p _ _ d;rw[e]at this;cases this;exact .mp o d g f j
 | it o e g f j =>
  intro c;cases c with
  |it c =>
   have ⟨q,d⟩:=Option.isSome_iff_exists.1 c;have:=p _ _ d;rw[e]at this;cases this;exact .it o d g f j
 | yld o e g f j =>
  intro c;cases c with
  |yld c =>
   have ⟨q,d⟩:=Option.isSome_iff_exists.1 c;have:=p _ _ d;rw[e]at this;cases this;exact .yld o d g f j
 | osc o e g f j =>
  intro c;cases c with
  |osc c =>
   have ⟨q,d⟩:=Option.isSome_iff_exists.1 c;have:=p _ _ d;rw[e]at this;cases this;exact .osc o d g f j
theorem OF.sub{ι}{H H'}(d:Sub H' H){b}(h:OF ι H' b):OF ι H b :=let ⟨id,o,c,a,e⟩:=h;⟨id,o,c,d _ o a,e⟩
theorem Rel.restrict{I}{ι}{H H'}{w}(e:Rel I ι H w)(d:Sub H' H)(l:dN H'):Rel I ι H' w where
 imm:=e.imm
 obj:=λid o g=>(e.obj _ o (d _ o g)).keep Z (λ_ _ _ _=>⟨Z,λh=>h⟩) (λr f a i v k=>k.restrict d (l _ o g r f a i))
 inj:=λid id' o D b c B h j=>e.inj _ _ o _ b c _ (d _ o h) (d _ _ j)
 glob:=e.glob
def PN(H0 H' H:aF):Prop:=∀id,(H0.get id).isSome=T->H'.get id=H.get id
theorem Step.restrict{c I}{a ι}{H0 H H'}{d w}(h:Step c a H0 d I ι H w)(f:Sub H' H)(k:PN H0 H' H):Step c a H0 d I ι H' w where
 os:=h.os
 tape:=h.tape
 output:=h.output
 size:=h.size
 froz:=h.froz
 imm:=h.imm
 immNew:=h.immNew
 own:=λb j=>h.own b (j.sub f)
 keep:=h.keep
 objs:=λid o e=>by
  obtain ⟨i,g,l⟩:=h.objs _ o e;exact⟨i,(k _ G_).trans g,l⟩
def Hl(E:dG)(H':aF):dG->Prop
 | []=>True
 |(t,v)::r=>(∃v0,E.get t=A v0/\v0=v)/\Clo H' v/\Hl E H' r
def ee(H H':aF):aF->Prop
 | []=>True
 |(id,o)::r=>(∃B,H.get id=A B/\B=o)/\(∀r∈o.rows,∀a∈r,Clo H' a)/\ee H H' r
def Hj(H' H:aF):aF->Prop
 | []=>True
 |(id,_)::r=>H'.get id=H.get id/\Hj H' H r
theorem iS{t}{v}(h:E.get t=A v):(t,v)∈E:=by
 induction E with
 |nil=>cases h
 | cons x r ih =>
  have ⟨i,u⟩:=x;cases e:Nat.beq i t with
  |true =>
   have:=eq_of_beq_eq_true e;subst this;simp[dG.get,e]at h;simp[h]
  |false=>simp[dG.get,e]at h;simp_all
theorem eH{t}{o}(h:H.get t=A o):(t,o)∈H:=by
 induction H with
 |nil=>cases h
 | cons x r ih =>
  have ⟨i,u⟩:=x;cases e:Nat.beq i t with
  |true =>
   have:=eq_of_beq_eq_true e;subst this;simp[aF.get,e]at h;simp[h]
  |false=>simp[aF.get,e]at h;simp_all
theorem Hl.spec{E}{H'}{E'}(h:Hl E H' E'):∀p∈E',E.get p.1=A p.2/\Clo H' p.2:=by
 induction E' with
 |nil=>simp
 |cons x r H =>
  have ⟨⟨v0,B,D⟩,F,G⟩:=h
  grind
theorem ee.spec{H H'}{L}(h:ee H H' L):∀p∈L,H.get p.1=A p.2/\∀r∈p.2.rows,∀a∈r,Clo H' a:=by
 induction L with
 |nil=>simp
 |cons x r I =>
  have ⟨⟨v0,B,D⟩,E,F⟩:=h;intro p G
  grind
theorem Hj.spec{H' H}{L}(h:Hj H' H L):∀p∈L,H'.get p.1=H.get p.1:=by
 induction L with
 |nil=>simp
 |cons x r b =>
  intro p a;rcases l9.1 a with e|e
  .subst e;exact h.1
  exact b h.2 p e
theorem ee.sub{H H'}(h:ee H H' H'):Sub H' H:=λid o a=>(h.spec _ (eH a)).1
theorem ee.closed{H H'}(h:ee H H' H'):dN H':=λid o a=>(h.spec _ (eH a)).2
theorem Hj.kept{H0 H' H}(h:Hj H' H H0):PN H0 H' H:=λid b=>by
 have ⟨o,a⟩:=Option.isSome_iff_exists.1 b;exact h.spec _ (eH a)
theorem cH.wk{G0}{E E'}{H H'}(f:Hl E H' E')(b:ee H H' H')(i:Hj H' H G0):cH G0 E H E' H':=by intro G l r4 a w d;have ⟨I,n,j,e,k⟩:=d.rel;subst l;refine⟨d.defers,d.size,I,n,j.restrict b.sub b.closed,e.restrict b.sub i.kept,λt v g=>?_⟩;have ⟨h,o⟩:=f.spec _ (iS g);have ⟨c,m,p⟩:=k t v h;exact⟨c,m,p.restrict b.sub o⟩
theorem cH.trans{G0}{E E' b}{H H' c}(h:cH G0 E H E' H')(f:cH G0 E' H' b c):cH G0 E H b c:=λG d r4 a w e=>f G d r4 a w (h G d r4 a w e)
theorem cH.env{G0}{E E'}{H}(d:∀p∈E',E.get p.1=some p.2):cH G0 E H E' H:=by intro G B r4 a w c;have ⟨I,g,e,b,h⟩:=c.rel;exact⟨c.defers,c.size,I,g,e,b,λt v f=>h t v (d _ (iS f))⟩
inductive Fz(H':aF)(id g:Nat)(ps:List (List PV)):AV->AV->Prop
 |same {a:AV} (h:Clo H' a):Fz H' id g ps a a
 |osl {off len:Nat} {qs:List (List PV)} (hq:(ps.take (off+len)).drop off=qs):Fz H' id g ps (.osl id g off len) (.pv (.sl qs))
 |agg {cs cs':List AV} (hl:C cs=C cs') (h:∀(i:Nat) (a a':AV),cs[i]?=A a->cs'[i]?=A a'->Fz H' id g ps a a'):Fz H' id g ps (.agg cs) (.agg cs')
 |tup {cs cs':List AV} (hl:C cs=C cs') (h:∀(i:Nat) (a a':AV),cs[i]?=A a->cs'[i]?=A a'->Fz H' id g ps a a'):Fz H' id g ps (.tup cs) (.tup cs')
theorem Fz.raw{H'}{id g}{ps}{a B}(h:Fz H' id g ps a B){y}{b}(e:B=.raw y b):a=.raw y b:=by cases h<;>first|exact e|cases e
def rJ(I:Nat->Prop)(ι:mD)(id:Nat):Nat->Prop:=λb=>I b\/∃cap,ι id=A (b,cap)
theorem FR(E:Rel I ι H w)(j:H.get id=A ob)(d:ob.rows=ps.map (·.map .pv))(x:VRel w I ι H v (.osl id ob.g off len)):
  PRep w (rJ I ι id) v (.sl ((ps.take (off+len)).drop off)):=by
 obtain ⟨L,⟨b,a,D,e,s,q⟩|⟨e,s,q,K⟩⟩:=jX x j Z
 .obtain ⟨y,d_,⟨b',cap',i_,f,B,e3,e4,e5,e5',t⟩|⟨f,_⟩⟩:=(E.obj id ob j).cells (qO x j Z)
  .rw[e]at f;cases f;have J:C ps=C ob.rows:=F_
   have c:=PRep.cut (w:=w) (I:=rJ I ι id) (b:=b) (off:=0) (cap:=a) (sz:=ob.sz) (rows:=ps) (l:=off) (h:=off+len) (cs:=λi k=>(i_[i*ob.sz+k]?).getD undef)
    (.inr ⟨a,e⟩) y (λr P=>by
     have:r.map AV.pv∈ob.rows:=G_
     have:=d_ _ this
     simpa using this) X
    (λi r o k p m=>by
     have ⟨u,n,F,z⟩:=t i (r.map .pv) (by rw[d];simp[o]) k (.pv p) (by simp[m]);rw[r7,cell_of_row w b _ i_ ob.ty (0,0) B,n];rfl)
    (λi r o k p m=>by
     have ⟨u,n,F,z⟩:=t i (r.map .pv) (by rw[d];simp[o]) k (.pv p) (by simp[m]);rw[n];exact z.pv_inv.mono (λ_ _=>rfl) (λ_ h=>.inl h)) X X
   rw[s];by_cases G:a=off
   .have l:len=0:=X
    subst l;have:(ps.take (off+0)).drop off=[]:=eq_nil_of_length_eq_zero H_;rw[this];exact .sl b D (a - off) ob.sz [] (λ_ _=>undef) (.inr ⟨a,e⟩) y H_ H_ H_ H_
   rw[a8 G,Addr.add_lit]at c;rw[q X]
   simpa using c
  rw[e]at f;cases f
 subst q K;rw[s]
 simpa using PRep.nilsl
theorem VRel.freeze{w}{I}{ι}{H H'}{id}{ob}{ps}(p:Rel I ι H w)(s:Sub H' H)(x:H.get id=A ob)(m:ob.rows=ps.map (·.map .pv)){a B}(q:Fz H' id ob.g ps a B):
  ∀ {v},VRel w I ι H v a->VRel w (rJ I ι id) ι H' v B:=by
 induction q with
 |same h=>exact λc=>(c.restrict s h).mono' (λ_ _=>rfl) (λ_ h=>.inl h) (λ_ o h=>⟨o,h,h_ _,λ_=>⟨Z,Z,λ_=>h_ _⟩⟩)
 |osl r =>
  intro v c;subst r;exact .pv (FR p x m c)
 | agg g h j =>
  intro v c;cases c with
  |agg k t f =>
   refine .agg (k.trans g) t λi u B l b=>?_;have n:=(m9.1 b).1;exact j i _ _ (n_ X) b (f i u _ l (n_ _))
 | tup g h j =>
  intro v c;cases c with
  |tup k f =>
   refine .tup (k.trans g) λi u B l b=>?_;have n:=(m9.1 b).1;exact j i _ _ (n_ _) b (f i u _ l (n_ X))
theorem Rel.freeze{w}{I}{ι}{H H'}{id}{ob}(c:Rel I ι H w)(l:Sub H' H)(p:dN H')(k:H.get id=A ob)(i:H'.get id=ζ):Rel (rJ I ι id) ι H' w:=by
 have e:=c.restrict l p;refine⟨λb d=>?_,λj o g=>?_,e.inj,c.glob.mono (λ_ _=>rfl) (λ_ h=>.inl h)⟩
 .rcases d with d|⟨f,d⟩
  .exact c.imm b d
  exact c.lt ⟨id,ob,f,k,d⟩
 refine(e.obj j o g).keep Z (λB cap' m _=>⟨Z,λD=>?_⟩) (λr _ a _ v n=>n.mono' (λ_ _=>rfl) (λ_ h=>.inl h) (λ_ o h=>⟨o,h,h_ _,λ_=>⟨Z,Z,λ_=>h_ _⟩⟩));rintro(h|⟨f,h⟩)
 .grind
 have:=c.inj j _ o _ _ _ _ (l j o g) k m h;rw[this,i]at g;cases g
theorem Step.freeze{f I}{c ι}{H0 H H'}{e w}{id}{ob}(h:Step f c H0 e I ι H w)(j:Sub H' H)(i:PN H0 H' H)(k:H.get id=A ob):Step f c H0 e (rJ I ι id) ι H' w :=let l:=h.restrict j i
  { l with
    imm:=λb a=>.inl (h.imm b a)
    immNew:=λb a=>by
      rcases a with a|⟨d,a⟩
      · exact h.immNew b a
      · rcases h.own b ⟨id,ob,d,k,a⟩with g|g
        all_goals simp_all}
def Fin(G0:aF)(H:aF)(r:AV)(H':aF)(r':AV):Prop :=∀(G:Entry),G.H=G0->∀(I:Nat->Prop) (ι:mD) (w:World) (v:Value),Rel I ι H w->Step G.I G.ι G.H G.w I ι H w->VRel w I ι H v r ->
  ∃D B,Rel D B H' w/\Step G.I G.ι G.H G.w D B H' w/\VRel w D B H' v r'
theorem Fin.wk{G0 H H'}{r}(c:Clo H' r)(a:ee H H' H')(b:Hj H' H G0):Fin G0 H r H' r:=by intro G d I f w v h g e;subst d;exact⟨I,f,h.restrict a.sub a.closed,g.restrict a.sub b.kept,e.restrict a.sub c⟩
theorem Fin.trans{G0 H H' a}{r r' b}(h:Fin G0 H r H' r')(i:Fin G0 H' r' a b):Fin G0 H r a b:=by intro G c I ι w v j f g;have ⟨D,B,d,e,k⟩:=h G c I _ w v j f g;exact i G c _ _ w v d e k
theorem Fin.fz{G0 H H'}{r r'}{id}{ob}(ps)(c:H.get id=A ob)(d:ob.rows=ps.map (·.map .pv))(h:Fz H' id ob.g ps r r')(b:H'.get id=ζ)(a:ee H H' H')(i:Hj H' H G0):Fin G0 H r H' r':=by intro G f I j w v e k g;subst f;exact⟨_,j,e.freeze a.sub a.closed c b,k.freeze a.sub i.kept c,VRel.freeze e a.sub c d h g⟩
theorem cH.fz{G0}{E E'}{H H'}{id}{ob}(ps)(f:H.get id=A ob)(h:ob.rows=ps.map (·.map .pv))(j:∀p∈E',∃v0,E.get p.1=A v0/\Fz H' id ob.g ps v0 p.2)(e:H'.get id=ζ)
  (b:ee H H' H') (s:Hj H' H G0):cH G0 E H E' H':=by
 intro G u r4 a w d;have ⟨I,q,i,g,l⟩:=d.rel;subst u;refine⟨d.defers,d.size,_,q,i.freeze b.sub b.closed f e,g.freeze b.sub s.kept f,λt v m=>?_⟩;have ⟨v0,o,r⟩:=j _ (iS m);have ⟨c,n,k⟩:=l t _ o;exact⟨c,n,VRel.freeze i b.sub f h r k⟩
def oN(args:List AV):dG:=args.zipIdx.map λ(v,i)=>(i,v)
def fy(tmps:Array Value):ResultVar->Sem Value
 |.tmp t=>pure (tmps.getD t undef)
 |.cell a t=>do loadVar t (<-asAddr (tmps.getD a undef))
theorem vJ(c)(a):results c a=(do let b <-c.results.mapM (fy a);pure (if h:b.size=1 then b[0]else .tuple b)):=rfl
def PM(P:Program)(E:dG)(H:aF)(x:ResultVar)(r:AV):Prop :=∀(a:Act) (w:World) (I:Nat->Prop) (ι:mD),Rel I ι H w->lS w I ι H E a ->
  ∃v,(fy a.tmps x).run P w=.ok v w/\VRel w I ι H v r
theorem aI{P}{E}{H}{t}{r}(h:E.get t=A r):PM P E H (.tmp t) r:=λa w I ι _ d=>by
 have ⟨c,e,b⟩:=d t r h;exact⟨c,by simp[fy,e],b⟩
theorem fG{P}{E}{H}{t}{u4}{n id g i k}{ob}{r cs}(m:E.get t=some (.ref id g i k))(p:∀w,(isAgg u4).run P w=.ok true w)(i_:∀w,(sizeOf u4).run P w=.ok n w)(h:H.get id=some ob)(j:ob.g=g)
  (hi:ob.rows[i]?=A r) (x:(r.drop k).take n=cs) (y:C cs=n):PM P E H (.cell t u4) (.agg cs):=λa w I ι s z=>by
 have ⟨c,o,l⟩:=z t _ m;have ⟨v,u,q⟩:=Nl (GM s l h j hi) p i_ x y;have ⟨b,cap,_,e⟩:=pZ l h j;subst e;refine⟨v,?_,q⟩
 simpa[fy,o,asAddr,Instr.loadAt,Instr.sureAddr]using u
theorem iR{P}{E}{H}{t}{u4}{id g i k}{ob}{r}{v}(p:E.get t=some (.ref id g i k))(q:∀w,(isAgg u4).run P w=.ok false w)(f:H.get id=some ob)(h:ob.g=g)
  (hi:ob.rows[i]?=A r) (hk:r[k]?=A v):PM P E H (.cell t u4) v:=λa w I ι m n=>by
 have ⟨c,o,j⟩:=n t _ p;have ⟨u,l,s⟩:=Nm (a:=v) (GM m j f h hi) q F_;have ⟨b,cap,_,e⟩:=pZ j f h;subst e;refine⟨u,?_,s⟩
 simpa[fy,o,asAddr,Instr.loadAt,Instr.sureAddr]using l
def OG(P:Program)(fn:Func)(G0:aF)(Q:AV->aF->Prop)(e:Exit)(E:dG)(H:aF):Prop :=(e=.normal\/e=.ret)/\∃r,(∀(a:Act) (w:World) (I:Nat->Prop) (ι:mD),Rel I ι H w->lS w I ι H E a->∃v,(results fn a.tmps).run P w=.ok v w/\VRel w I ι H v r)/\∃r' H',Fin G0 H r H' r'/\Q r' H'
section
variable{fn:Func}{Q:AV->aF->Prop}{e:Exit}
theorem pE(d:e=.normal\/e=.ret)(f:fn.results=#[]){r'}{H'}(b:Fin G0 H (.tup []) H' r')(c:Q r' H'):OG P fn G0 Q e E H :=⟨d,.tup _,λa w I ι _ _=>⟨.tuple #[],by simp[results,f],.tup Z H_⟩,r',H',b,c⟩
theorem cT(j:e=.normal\/e=.ret){x}{r r'}{H'}(i:fn.results=#[x])(g:PM P E H x r)(b:Fin G0 H r H' r')(f:Q r' H'):OG P fn G0 Q e E H :=⟨j,r,λa w I ι h c=>by
  have ⟨v,d,k⟩:=g a w I _ h c;exact⟨v,by rw[vJ,i];simp[d],k⟩,r',H',b,f⟩
theorem gD(j:e=.normal\/e=.ret){x y}{H'}(i:fn.results=#[x,y])(g:PM P E H x r)(k:PM P E H y s)(b:Fin G0 H (.tup [r,s]) H' r')(h:Q r' H'):OG P fn G0 Q e E H :=⟨j,.tup _,λa w I d f c=>by
  have ⟨v,B,D⟩:=g a w I d f c;have ⟨u,F,G⟩:=k a w I d f c;refine⟨.tuple #[v,u],by rw[vJ,i];simp_all,.tup Z ?_⟩
  grind,r',H',b,h⟩
theorem mK(j:e=.normal\/e=.ret){x y z:ResultVar}{t:AV}(k:fn.results=#[x,y,z])(l:PM P E H x r)(h:PM P E H y s)(i:PM P E H z t)(b:Fin G0 H (.tup [r,s,t]) H' r')(g:Q r' H'):OG P fn G0 Q e E H :=⟨j,.tup [r,s,t],λa w I f c d=>by
  have ⟨v,B,D⟩:=l a w I f c d;have ⟨u,F,G⟩:=h a w I f c d;have ⟨q,J,K⟩:=i a w I f c d;refine⟨.tuple #[v,u,q],by rw[vJ,k];simp_all,.tup Z ?_⟩
  grind,r',H',b,g⟩
end
theorem xQ{args}{t}{v}(h:(oN args).get t=A v):args[t]?=A v:=by have c:=iS h;simp[oN,mem_map,Prod.mk.injEq,Prod.exists]at c;have ⟨a,i,b,e,d⟩:=c;subst e d;rw[mem_zipIdx_iff_getElem?]at b;exact b
theorem PRep.swap{w w'}{I}(q:∀b o,w'.cell? ⟨b,o,ζ⟩=w.cell? ⟨b,o,ζ⟩){v}{p}(h:PRep w I v p):PRep w' I v p:=by
 induction h with
 |int k n=>exact .int k n
 |bool b=>exact .bool b
 |str s=>exact .str s
 |nilp=>exact .nilp
 |fn f=>exact .fn f
 |nilfn=>exact .nilfn
 |nilsl=>exact .nilsl
 |nils=>exact .nils
 |nilm=>exact .nilm
 |sat y h=>exact .sat y h
 |slf a n e h d=>exact .slf a n _ d
 |ifc t v p h d=>exact .ifc t v p d
 |ifa t D ps B h d=>exact .ifa t _ _ B (λk c p q u=>d k c p q u)
 |empsl a=>exact .empsl a
 |sl b off cap sz e D x m j g l u d =>
  exact .sl b _ _ _ _ _ x m j g (λi r E k p z=>(q _ _).trans (l i r E k p z)) d
theorem VG.swap{w}{I}{D}{x}(B:w.heap[D]?=A (.deferred x))(y)(h:VG I w):VG I (w.putObj D (.deferred y)):=λp a=>by
 have ⟨g,d,t,f,c,b⟩:=h p a;refine⟨g,d,t,f,?_,b⟩;rw[World.putObj_heap_other (λe=>by simp_all)];exact c
theorem VRel.swap{w w'}{I}{ι}{H}(l:∀b o,w'.cell? ⟨b,o,ζ⟩=w.cell? ⟨b,o,ζ⟩){v}{a}(h:VRel w I ι H v a):VRel w' I ι H v a:=by
 induction h with
 |any v=>exact .any v
 |pv h=>exact .pv (h.swap l)
 |ref o c f d e=>exact .ref o c f d e
 |pad b off cap sz c f d cs e q s=>exact .pad b _ _ _ (c.swap l) f d _ e (λi r n k p m=>(l _ _).trans (q i r n k p m)) (λi r n k p m=>(s i r n k p m).swap l)
 |osl o c f d e=>exact .osl o c f d e
 |clo g h j=>exact .clo g j
 |bnd g h j=>exact .bnd g j
 |agg g c h j=>exact .agg g c j
 |tup g h j=>exact .tup g j
 |mp o c f d e=>exact .mp o c f d e
 |it o c f d e=>exact .it o c f d e
 |yld o c f d e=>exact .yld o c f d e
 |osc o c f d e=>exact .osc o c f d e
theorem Bz {D:Nat} {x:Option (List Deferred)} (d:Rel I ι H w) (c:Step G.I G.ι G.H G.w I ι H w) (f:w.heap[D]?=A (.deferred x)) (B:G.w.heap.size<=D) (y:Option (List Deferred)) :
    Rel I ι H (w.putObj D (.deferred y))/\Step G.I G.ι G.H G.w I ι H (w.putObj D (.deferred y))/\∀v a,VRel w I ι H v a->VRel (w.putObj D (.deferred y)) I ι H v a:=by
  have g:=(Array.getElem?_eq_some_iff.1 f).1;have t:∀b o,(w.putObj D (.deferred y)).cell? ⟨b,o,ζ⟩=w.cell? ⟨b,o,ζ⟩:=λb o=>by
    by_cases e:b=D
    · subst e
      simp[World.cell?,World.putObj_heap_same g,f]
    · exact cell?_of_heap (World.putObj_heap_other e)
  have p:∀v a,VRel w I ι H v a->VRel (w.putObj D (.deferred y)) I ι H v a:=λv a h=>h.swap t;have k:=BV d f;refine⟨⟨λb l=>by rw[World.putObj_size];exact d.imm b l,λj o n=>?_,d.inj,d.glob.swap f y⟩,?_,p⟩
  · exact(d.obj j o n).keep Z (λb m q _=>⟨World.putObj_heap_other (λe=>k (e▸⟨j,o,m,n,q⟩)),λh=>h⟩) (λr _ a _ v h=>p v a h)
  · exact { os := c.os, tape := c.tape, output := c.output
            size:=by rw[World.putObj_size];omega
            froz:=λa s i=>by
              rw[<-c.froz a s i];unfold World.frozen?;rw[World.putObj_heap_other X]
            imm:=c.imm,immNew:=c.immNew,own:=c.own
            keep:=λb l i=>by rw[World.putObj_heap_other X];exact c.keep b l i
            objs:=c.objs}
theorem AW{i:Func}{b:Array Value}{d m:List Deferred}{u:FrameMode}{R:Ending->World->Prop}(L:u≠.run)(Q:uM d G.w w m)(k:Rel I ι H w)(f:Step G.I G.ι G.H G.w I ι H w)(h:lS w I ι H E a)
  (z:∀w',Rel I ι H w'->Step G.I G.ι G.H G.w I ι H w'->lS w' I ι H E a->LeavesInM Fence.wide 0 P i b R d u w'):LeavesInM Fence.wide 0 P i b R m u w:=by
 obtain ⟨n,rfl,o,j⟩:=Q
 induction n generalizing w with
 |nil=>exact z w k f h
 |cons D n x =>
  have ⟨y,p⟩:=j D mem_cons_self;have ⟨F,r,J⟩:=Bz k f p y ζ;refine⟨L,.inl ⟨D,_,Z,run_takeDeferred p,?_⟩⟩;refine x F r (λt v s=>let ⟨c,i_,K⟩:=h t v s;⟨c,i_,J _ _ K⟩) (nodup_cons.1 o).2 (λl g=>?_);have ⟨q,B⟩:=j l (mem_cons_of_mem _ g);refine⟨q,?_⟩;rw[World.putObj_heap_other (k:=l) (r:=D) (λe=>(nodup_cons.1 o).1 F_)];exact B
theorem xL{P}{d}{b}{E}{I}{ι}{H}{e}{R}{w}{a}(B:uM [] G.w w e)(g:Rel I ι H w)(c:Step G.I G.ι G.H G.w I ι H w)(h:lS w I ι H E a)
  (f:∀w',Rel I ι H w'->Step G.I G.ι G.H G.w I ι H w'->lS w' I ι H E a->∃v,(results d b).run P w'=.ok v w'/\R (.returned v) w'):LeavesInM Fence.wide 0 P d b R e .returning w :=
 AW H_ B g c h f
theorem aU.body{g:Func}{c:Code}{Q:AV->aF->Prop}(K:P.funcs[f]?=some g)(G:g.body=some c)(hN:g.ntmps=r4)(hlen:args.length<=r4)
  (h:fW P H r4 c (OG P g H Q) (oN args) H):aU P f args H Q:=by
 intro I o w i E hl R;refine callsIn_wide.1 (callsIn_of_wp_marks (F:=Fence.wide) (n:=0) K G T_ ?_);have y:St ⟨I,o,H,w,[]⟩ r4 (oN args) H {tmps:=i++Array.replicate (g.ntmps - i.size) undef,defers:=[]} w:=by
  refine⟨uM.nil _ _ _,?_,I,o,E,Step.refl _ _ _ _,λt a o_=>?_⟩
  ·grind
  have F:=xQ o_;have i_:t<i.size:=G_
  have L:i[t]?=some i[t]:=Array.getElem?_eq_getElem i_;exact⟨i[t],by grind,R t _ a L F⟩
 refine wpIn_mono (h ⟨I,o,H,w,[]⟩ Z _ w y none (.inl Z)) ?_;rintro e u q ⟨E',j,⟨c_,r,m,r',H'',n,hq⟩,D⟩;have p:LeavesInM Fence.wide 0 P g u.tmps (λe q=>∃r j d b v,e=.returned v/\Q r j/\VRel q d b j v r/\Rel d b j q/\Step I o H w d b j q) u.defers .returning q:=by
  have ⟨d,b,x,l,z⟩:=D.rel;refine xL D.defers x l z ?_;intro d_ s k B;have ⟨v,h1,e_⟩:=m u d_ d b s B;have ⟨I2,ι2,k1,k2,k3⟩:=n ⟨I,o,H,w,[]⟩ Z d b d_ v s k e_
  grind
 rcases c_ with rfl|rfl
 ·exact p
 exact p
section
variable{o:Oper}{Q:AV->aF->Prop}
theorem pT{w}{I}{ι}{a}(k:lS w I ι H E a):∀ {l:List _} {c},l.mapM (aQ E)=A c->C l=C c/\∀(i:Nat) (v) (b),(l.map a.eval)[i]?=A v->c[i]?=A b->VRel w I ι H v b:=by
 intro l
 induction l with
 |nil=>simp_all
 |cons x l g =>
  intro c h;simp[mapM_cons,Option.pure_def,Option.bind_eq_bind,Option.bind_eq_some_iff,Option.some.injEq]at h;obtain ⟨v0,j,B,n,rfl⟩:=h;have ⟨m,f⟩:=g n;refine⟨by simp[m],?_⟩;intro i v b d e;cases i with
  |zero=>simp at d e;subst d e;exact aJ k j
  |succ i=>exact f i v b (by simpa using d) e
def zF(E:dG):List Operand->Option (List AV)
 | []=>A []
 |x::r=>match aQ E x,zF E r with
  |some v,A vs=>A (v::vs)
  |_,_=>ζ
theorem oE{l}{a}(h:zF E l=A a):l.mapM (aQ E)=A a:=by
 induction l generalizing a with
 |nil=>simpa[zF]using h
 |cons x r B =>
  unfold zF at h
  grind
theorem bH{F}{f}{args}{c}{e}(m:o.op=.call {callee:=.value f,args:=args,argTypes:=c})(p:aQ E f=A (.pv (.fn F)))
  (q:∀(args) (w:World),(callFunc F args).run P w=.ok (.enter F args) w) (g:zF E args.toList=A e) (h:aU P F e H Q):nv P r4 o E H Q:=by
 intro a w I r _ _ n j K B G;have d:=(aJ j p).fn_inv;have ⟨D,k⟩:=pT j (oE g);unfold Oper.wpW execOp;simp only[m,resolve,d,Deferred.ofValue,Sem.run_bind,Sem.run_pure,Result.andThen_ok,invoke,q,Oper.uponW_enter];refine(h I r w _ n F_ (λi v b g l=>k i v b F_ l)).mono ?_
 grind
theorem aw{F:FuncId}{f:Operand}{args:Array Operand}{m:Array TypeId}{k c:List AV}(x:o.op=.call {callee:=.value f,args:=args,argTypes:=m})(t:aQ E f=A (.clo F c))
  (s:∀(args:Array Value) (w:World),(callFunc F args).run P w=.ok (.enter F args) w) (d:zF E args.toList=A k) (h:aU P F (k++c) H Q):nv P r4 o E H Q:=by
 intro a w I u _ _ r n K B J;have e:=aJ n t;generalize j:a.eval f=D at e;have ⟨G,p⟩:=pT n (oE d);cases e with
 | @clo _ us _ hl q =>
  unfold Oper.wpW execOp;simp only[x,resolve,j,Deferred.ofValue,Sem.run_bind,Sem.run_pure,Result.andThen_ok,invoke,s,Oper.uponW_enter,Array.empty_append];have l:args.size=C k:=X
  refine(h I u w _ r F_ (λi v b d g=>?_)).mono ?_
  .by_cases hi:i<args.size
   .rw[Array.getElem?_append_left F_]at d;rw[getElem?_append_left X]at g;exact p i v b F_ g
   rw[Array.getElem?_append_right G_]at d;rw[getElem?_append_right X]at g;simp only[Array.size_map]at d;rw[l]at d;exact q _ v b d g
  grind
end
theorem aU.frame0{Q}(h:aU P f args [] Q)(R:∀a∈args,Clo [] a)(E:∀r H',Q r H'->H'=[])(H:aF):aU P f args H (λr H'=>Q r []/\H'=H):=by
 intro I j w J n G x;have y:Sub [] H:=λ_ _ h=>by cases h
 have L:dN []:=λ_ _ h=>by cases h
 refine(h I j w J (n.restrict y L) G (λi v a g B=>(x i v a g B).restrict y (R a (m7 B)))).mono ?_;rintro e z ⟨r,H',s,ι',v,rfl,q,F,i_,c⟩;have:=E r H' q;subst this;have d:∀b,¬ OF j [] b:=λb ⟨_,_,_,K,_⟩=>by cases K
 have l:Step I j H w s j H z:=by
  refine⟨c.os,c.tape,c.output,c.size,λa W _=>c.froz a W (d _),c.imm,λb k=>?_,λb k=>.inl k,λb k _=>c.keep b k (d b),λid o p=>⟨o,p,h_ _,λ_=>⟨Z,Z,λ_=>h_ _⟩⟩⟩;rcases c.immNew b k with g|g|g;all_goals simp_all
 have m:Rel s j H z:=by
  refine⟨i_.imm,λid o p=>?_,n.inj,i_.glob⟩;refine(n.obj id o p).keep Z (λu cap' e1 t=>⟨c.keep u t (d u),λe3 D=>?_⟩) (λr _ a _ v x=>x.mono n l);rcases c.immNew u D with g|g|g;all_goals grind
 refine⟨r,H,s,j,v,Z,⟨q,Z⟩,?_,m,l⟩;exact F.mono' (λ_ _=>rfl) (λ_ h=>h) (λ_ _ h=>by cases h)
end
section
def CK(w:World)(I:Nat->Prop)(ι:mD)(H:aF)(c:Array Value)(l:List AV):Prop :=c.size=l.length/\∀(j:Nat) (a:AV),l[j]?=some a->∃u,c[j]?=some u/\u.oneCell'=true/\VRel w I ι H u a
theorem T9(off):∀(l:List Value) (k:Nat) (cs:Array Value),
  ((l.zipIdx k).foldl (λcs p=>cs.setIfInBounds (off+p.2) p.1) cs).size=cs.size /\
  ∀i,((l.zipIdx k).foldl (λcs p=>cs.setIfInBounds (off+p.2) p.1) cs)[i]?=if off+k<=i/\i<off+k+C l/\i<cs.size then l[i - (off+k)]? else cs[i]?
 | [],k,cs=>⟨by simp,λi=>by rw[List.zipIdx_nil,List.foldl_nil,a8 (by grind)]⟩
 |v::l,k,cs=>by
  obtain ⟨B,D⟩:=T9 off l (k+1) (cs.setIfInBounds (off+k) v);simp only[zipIdx_cons,foldl_cons]
  grind
def U7(l:List AV)(off:Nat)(vs:List AV):List AV:=l.take off++(vs++l.drop (off+C vs))
theorem u7{p:Prop}(h:p:=by simp;omega):p:=h
theorem CK.fill{c d:Array Value}{l g:List AV}(h:CK w I ι H c l)(B:CK w I ι H d g)(D:off+C g<=C l):
  CK w I ι H (d.zipIdx.foldl (λcs (x,j)=>cs.setIfInBounds (off+j) x) c) (U7 l off g):=by
 have n:=T9 off d.toList 0 c;have e:d.zipIdx.foldl (λcs (x,j)=>cs.setIfInBounds (off+j) x) c=(d.toList.zipIdx 0).foldl (λcs p=>cs.setIfInBounds (off+p.2) p.1) c:=by
  rw[<-Array.foldl_toList,Array.toList_zipIdx]
 rw[e];have ⟨o,r⟩:=n;refine⟨by rw[o,h.1];simp[U7];omega,λj a f=>?_⟩;rw[r j];simp only[Nat.add_zero,Array.length_toList,B.1];unfold U7 at f;by_cases q:j<off
 .rw[a8 X];rw[getElem?_append_left G_,getElem?_take,b6 q]at f;exact h.2 j a f
 by_cases c2:j<off+C g
 .rw[b6 (by have:=h.1;omega)];have b:min off (C l)=off:=X
  rw[getElem?_append_right u7,getElem?_append_left u7]at f;simp only[m_,b]at f;have ⟨u,k,i,m⟩:=B.2 (j - off) a f;exact⟨u,by simpa using k,i,m⟩
 rw[a8 (by omega)];have b:min off l.length=off:=by omega
 rw[getElem?_append_right u7,getElem?_append_right u7,getElem?_drop]at f;simp only[m_,b]at f;rw[show off+C g+(j - off - C g)=j by omega]at f;exact h.2 j a f
theorem CK.of_cells{w}{I}{ι}{H}{v}{a}{l}(d:VRel w I ι H v a)(h:RD a=some l):CK w I ι H v.cells l :=let ⟨b,_,c⟩:=N5 d h;⟨b,c⟩
def qQ(E:dG):List (Nat×Operand)->Option (List (Nat×AV))
 | []=>A []
 |(i,x)::r=>match aQ E x,qQ E r with
  |some v,A vs=>A ((i,v)::vs)
  |_,_=>ζ
def D6(B:Nat->Option (Nat×Nat))(l:List AV):List (Nat×AV)->Option (List AV)
 | []=>A l
 |(i,a)::r=>match B i,RD a with
  |some (off,size),A vs=>if C vs=size/\off+size<=C l then D6 B (U7 l off vs) r else ζ
  |_,_=>ζ
theorem CK.fills{I}(z:lS w I ι H E a)(B):∀ {ps} {aps} {c} {l k:List AV},
  qQ E ps=A aps->CK w I ι H c l->D6 B l aps=A k->∃D,Instr.fill B c (ps.map λp=>(p.1,a.eval p.2))=A D/\CK w I ι H D k:=by
 intro ps
 induction ps with
 |nil =>
  intro aps c l k e j b;simp[qQ]at e;subst e;simp[D6]at b;subst b;exact⟨c,Z,j⟩
 | cons p r q =>
  have ⟨i,x⟩:=p;intro aps c l k e j b;unfold qQ at e
  split at e
  .rename_i v vs s t;cases e;unfold D6 at b
   split at b
   .rename_i m f us u o
    split at b
    .have h:=CK.of_cells (aJ z s) o;have G:(a.eval x).cells.size=f:=by rw[h.1];omega
     have F:=j.1;have g:=CK.fill (off:=m) j h X;have ⟨D,y,n⟩:=q t g b;refine⟨D,?_,n⟩;simp only[map_cons,Instr.fill,u];rw[a8 F_];exact y
    grind
   grind
  grind
section
variable{o:Oper}{x y:Operand}
theorem ND{c}{fs}{places}{l0 l:List AV}{aps}(W:o.op=.build u4 c)(R:P.underlying u4=A (.struct fs))
  (B:∀w,(zeroValue u4).run P w=.ok z w) (Q:ZV z v0) (m:RD v0=A l0) (q:∀w,((fs.mapM λf=>do pure (f.offset,<-sizeOf f.type)):Sem _).run P w=.ok places w)
  (t:qQ E c.toList=A aps) (G:D6 (places[·]?) l0 aps=A l):cP P r4 o E H (.agg l) H :=
 .of_run λa w I D _ J=>by
  have h:=CK.of_cells (ZV.rel (w:=w) (I:=I) (ι:=D) (H:=H) Q) m;have ⟨s,d,g⟩:=CK.fills J _ t h G;refine⟨.agg s,?_,.agg g.1 (λj u r=>?_) (λj u b r L=>?_)⟩
  .have i:Instr.fill (places[·]?) z.cells (c.map λp=>(p.1,a.eval p.2)).toList=A s:=F_
   simp only[execOp,W,Instr.build,Sem.run_bind,B,run_underlying R,q,Result.andThen_ok,i,Sem.run_pure]
  .have k:j<C l:=by rw[<-g.1];grind
   have ⟨v,e,K,_⟩:=g.2 j _ (n_ k);rw[r]at e;cases e;exact K
  have ⟨v,e,_,F⟩:=g.2 j b L;rw[r]at e;cases e;exact F
theorem V2{c}{n sz}{e}{z}{l0 l}{aps}(Q:o.op=.build u4 c)(W:P.underlying u4=A (.array n e))
  (D:∀w,(zeroValue u4).run P w=.ok z w) (F:ZV z v0) (m:RD v0=A l0) (G:∀w,(sizeOf e).run P w=.ok sz w)
  (v:qQ E c.toList=A aps) (K:D6 (λi=>A (i*sz,sz)) l0 aps=A l):cP P r4 o E H (.agg l) H :=
 .of_run λa w I R _ L=>by
  have h:=CK.of_cells (ZV.rel (w:=w) (I:=I) (ι:=R) (H:=H) F) m;have ⟨t,x,g⟩:=CK.fills L _ v h K;refine⟨.agg t,?_,.agg g.1 (λj u s=>?_) (λj u b s d=>?_)⟩
  .have r:Instr.fill (λi=>A (i*sz,sz)) z.cells (c.map λp=>(p.1,a.eval p.2)).toList=A t:=F_
   simp only[execOp,Q,Instr.build,Sem.run_bind,D,run_underlying W,G,Result.andThen_ok,r,Sem.run_pure]
  .have k:j<C l:=by rw[<-g.1];grind
   have ⟨B,f,q,_⟩:=g.2 j _ (n_ k);rw[s]at f;cases f;exact q
  have ⟨B,f,_,J⟩:=g.2 j b d;rw[s]at f;cases f;exact J
def O4:Nat->List (Nat×AV)->Option (List (List AV))
 |_,[]=>A []
 |k,(i,a)::r=>match Nat.beq i k,RD a,O4 (k+1) r with
  |true,A l,A ls=>A (l::ls)
  |_,_,_=>ζ
theorem YM(he:lS w I ι H E a)(sz:Nat):∀ {ps:List (Nat×Operand)} {aps:List (Nat×AV)} {rows:List (List AV)} {k:Nat} {c:Array Value},
  qQ E ps=some aps->O4 k aps=some rows->(∀r∈rows,r.length=sz)->(k+rows.length)*sz<=c.size ->
  ∃c',Instr.fill (λi=>some (i*sz,sz)) c (ps.map λp=>(p.1,a.eval p.2))=some c'/\c'.size=c.size/\(∀i,i<k*sz->c'[i]?=c[i]?) /\
   ∀(m:Nat) (r:List AV),rows[m]?=some r->∀(j:Nat) (b:AV),r[j]?=some b->∃u,c'[(k+m)*sz+j]?=some u/\u.oneCell'=true/\VRel w I ι H u b:=by
 intro ps
 induction ps with
 |nil =>
  intro aps rows k c s n o_ R;simp[qQ]at s;subst s;simp[O4]at n;subst n;exact⟨c,Z,Z,λ_ _=>rfl,H_⟩
 | cons p r v_ =>
  have ⟨i,x⟩:=p;intro aps rows k c s n o_ R;unfold qQ at s
  split at s
  ·rename_i v vs u_ e2;cases s;unfold O4 at n
   split at n
   ·rename_i l d_ e3 e4 W;cases n;have K:i=k:=Nat.eq_of_beq_eq_true e3;subst K;have i_:l.length=sz:=o_ l H_;have z:=CK.of_cells (aJ he u_) e4;have B:(i+(d_.length+1))*sz<=c.size:=by simpa using R
    have hfit:i*sz+sz<=c.size:=by
     have:(i+1)*sz<=(i+(d_.length+1))*sz:=Nat.mul_le_mul_right _ (by omega);rw[Nat.add_mul]at this;omega
    obtain ⟨Q,F⟩:=T9 (i*sz) (a.eval x).cells.toList 0 c;have e:(a.eval x).cells.zipIdx.foldl (λL (x,j)=>L.setIfInBounds (i*sz+j) x) c=((a.eval x).cells.toList.zipIdx 0).foldl (λL p=>L.setIfInBounds (i*sz+p.2) p.1) c:=by
     rw[<-Array.foldl_toList,Array.toList_zipIdx]
    rw[<-e]at Q F;have hsz:(a.eval x).cells.size=sz:=by rw[z.1,i_]
    obtain ⟨c',A_,z_,f_,y_⟩:=v_ (k:=i+1) e2 W (λr h=>o_ r (by simp[h])) (by rw[Q];rw[show i+1+d_.length=i+(d_.length+1)by omega];exact B);refine⟨c',?_,z_.trans Q,λq hq=>?_,λm r h j b c_=>?_⟩
    ·have t:¬ ((a.eval x).cells.size≠sz\/i*sz+(a.eval x).cells.size > c.size):=by omega
     simp only[List.map_cons,Instr.fill];rw[a8 (by simpa using t)];exact A_
    ·have g:q<(i+1)*sz:=by rw[Nat.add_mul];omega
     rw[f_ q g,F q,a8 (by omega)]
    cases m with
    |zero =>
     simp at h;subst h;obtain ⟨u,D,G,e_⟩:=z.2 j b c_;have hj:j<sz:=by rw[<-i_];exact(m9.1 c_).1
     refine⟨u,?_,G,e_⟩;have g:(i+0)*sz+j<(i+1)*sz:=by rw[Nat.add_zero,Nat.add_mul i 1,Nat.one_mul];omega
     rw[f_ _ g,F,b6 (by simp;omega)]
     simpa using D
    |succ m =>
     simp at h;obtain ⟨u,D,G,e_⟩:=y_ m r h j b c_;exact⟨u,by rw[show i+(m+1)=i+1+m by omega];exact D,G,e_⟩
   grind
  grind
theorem Rel.newImm{c:Array Value}(g:Rel I ι H w)(l:w'.os=w.os)(e:w'.tape=w.tape)(i:w'.output=w.output)(E:w'.heap=w.heap.push (.cells c t (0,0))):
  Rel (λb=>I b\/b=w.heap.size) ι H w'/\Step I ι H w (λb=>I b\/b=w.heap.size) ι H w':=by
 have d:∀x,x<w.heap.size->w'.heap[x]?=w.heap[x]?:=λx k=>by grind
 have B:w'.heap.size=w.heap.size+1:=F_
 have f:Step I ι H w (λb=>I b\/b=w.heap.size) ι H w':=by
  refine⟨l,e,i,X,λa p _=>?_,λ_ h=>.inl h,λb h=>?_,λ_ h=>.inl h,λx k _=>d x k,λ_ o h=>⟨o,h,h_ _,λ_=>⟨Z,Z,λ_=>h_ _⟩⟩⟩
  .simp[World.frozen?,d a.block p]
  grind
 refine⟨⟨λx k=>?_,λj o s=>?_,g.inj,f.glob g⟩,f⟩
 .rcases k with h|h
  .have:=g.imm x h;omega
  omega
 refine(g.obj j o s).keep Z (λn cap' D m=>⟨d n m,λF h=>?_⟩) (λr _ a _ v q=>q.mono g f)
 simp_all
theorem X4(n)(a:Array Value):((Array.range n).map (a[· % a.size]!)).size=n:=H_
theorem S9{c:Array (Nat×Operand)}{rows:List (List AV)}(ho:o.op=.buildSlice u4 n c)(d:P.underlying u4=A (.slice e))(W:∀w,(sizeOf e).run P w=.ok sz w)
  (hz:∀w,(zeroValue e).run P w=.ok z w) (hn:n*sz<=16777216) (e_:0<sz) (hp:qQ E c.toList=A aps) (z_:O4 0 aps=A rows) (F:ps.map (·.map AV.pv)=rows) (s:C ps=n) (L:∀r∈ps,C r=sz):cP P r4 o E H (.pv (.sl ps)) H:=by
 intro a w I ι _ _ f he K Q t;subst F;have v:=λzc:Array Value=>YM (c:=(Array.range (n*sz)).map (zc[· % zc.size]!)) he sz hp z_ (λr z_=>by
  grind) (by simp_all)
 obtain ⟨v_,y,k2,_,k4⟩:=v z.cells;have d_:v_.size=n*sz:=by simp_all
 have x:¬ (n*sz > 2 ^ 24):=X
 have B:∃l,(Instr.buildSlice u4 n (c.map λp=>(p.1,a.eval p.2))).run P w=.ok (.slice (some ⟨w.heap.size,0,none⟩) n n) (w.alloc (.cells l e))/\l.size=n*sz /\
   ∀(m:Nat) (r:List AV),(ps.map (·.map AV.pv))[m]?=A r->∀(j:Nat) (b:AV),r[j]?=A b->∃u,l[m*sz+j]?=A u/\u.oneCell'=T/\VRel w I ι H u b:=by
  by_cases f_:n*sz=0
  ·have ⟨c0,h,J,_,q4⟩:=v #[];refine⟨c0,?_,by rw[J,X4],λm r R j b D=>by have:=q4 m r R j b D;simpa using this⟩;rw[<-Array.toList_map]at h;simp only[f_]at h;simp only[Instr.buildSlice,Sem.run_bind,run_underlying d,Result.andThen_ok,W,Sem.run_ite,x,if_false,f_,if_true,Sem.run_pure,h,newRow,run_newObj];rfl
  refine⟨v_,?_,d_,λm r R j b D=>by have:=k4 m r R j b D;simpa using this⟩;rw[<-Array.toList_map]at y;simp only[Instr.buildSlice,Sem.run_bind,run_underlying d,Result.andThen_ok,W,Sem.run_ite,x,if_false,f_,hz,Sem.run_pure,y,newRow,run_newObj];rfl
 have ⟨g,g1,g2,u_⟩:=B;have ⟨m1,y_⟩:=Rel.newImm (c:=g) (t:=e) (w':=w.alloc (.cells g e)) f Z Z Z Z;unfold Oper.wpW execOp;simp only[ho,Sem.run_bind,g1,Result.andThen_ok,Sem.run_pure];refine t _ _ _ ι _ _ ⟨Z,Z⟩ (.pv ?_) m1 y_;have q:∀j,(w.alloc (.cells g e)).cell? ⟨w.heap.size,j,ζ⟩=g[j]?:=λj=>World.cell?_alloc_new w g e j;have:=PRep.sl (w:=w.alloc (.cells g e)) (I:=λb=>I b\/b=w.heap.size) w.heap.size 0 n sz ps (λi k=>(g[i*sz+k]?).getD undef) (.inr Z) e_ L X
  (λi r G k p t=>by
   have ⟨u,h,J,A_⟩:=u_ i (r.map .pv) (by simp[G]) k (.pv p) (by simp[t]);rw[q,r7,h];rfl)
  (λi r G k p t=>by
   have ⟨u,h,J,A_⟩:=u_ i (r.map .pv) (by simp[G]) k (.pv p) (by simp[t]);rw[h];exact(A_.mono f y_).pv_inv)
 rw[s]at this;exact this
theorem IX{c:Array (Nat×Operand)}{rows:List (List AV)}(v:o.op=.buildSlice u4 n c)(l:P.underlying u4=A (.slice e))(e_:∀w,(sizeOf e).run P w=.ok sz w)
  (hz:∀w,(zeroValue e).run P w=.ok z w) (hn:n*sz<=16777216) (g:0<sz) (y_:qQ E c.toList=A aps) (v_:O4 0 aps=A rows) (f:C rows=n) (s:∀r∈rows,C r=sz) (B:H.get id=ζ) :
  cP P r4 o E H (.osl id 0 0 n) ((id,⟨0,sz,e,rows⟩)::H):=by
 intro a w I A_ _ _ k he K Q hk;have G:=λR:Array Value=>YM (c:=(Array.range (n*sz)).map (R[· % R.size]!)) he sz y_ v_ s F_;have q:¬ (n*sz > 2 ^ 24):=X
 have i:∃h,(Instr.buildSlice u4 n (c.map λp=>(p.1,a.eval p.2))).run P w=.ok (.slice (some ⟨w.heap.size,0,none⟩) n n) (w.alloc (.cells h e))/\h.size=n*sz /\
   ∀(m:Nat) (r:List AV),rows[m]?=A r->∀(j:Nat) (b:AV),r[j]?=A b->∃u,h[m*sz+j]?=A u/\u.oneCell'=T/\VRel w I A_ H u b:=by
  by_cases D:n*sz=0
  ·obtain ⟨c0,d,q2,_,q4⟩:=G #[];refine⟨c0,?_,by simp_all,λm r F j b J=>by have:=q4 m r F j b J;simpa using this⟩;rw[<-Array.toList_map]at d;simp only[D]at d;simp only[Instr.buildSlice,Sem.run_bind,run_underlying l,Result.andThen_ok,e_,Sem.run_ite,q,if_false,D,if_true,Sem.run_pure,d,newRow,run_newObj];rfl
  have ⟨y,L,z_,_,u_⟩:=G z.cells;refine⟨y,?_,by rw[z_,X4],λm r F j b J=>by have:=u_ m r F j b J;simpa using this⟩;rw[<-Array.toList_map]at L;simp only[Instr.buildSlice,Sem.run_bind,run_underlying l,Result.andThen_ok,e_,Sem.run_ite,q,if_false,D,hz,Sem.run_pure,L,newRow,run_newObj];rfl
 have ⟨x,f_,g2,g3⟩:=i;have t:n<=maxLen:=by
  have:n<=n*sz:=Nat.le_mul_of_pos_right _ g;simp only[maxLen];omega
 have ⟨W,m2⟩:=Rel.place (H':=(id,⟨0,sz,e,rows⟩)::H) (id:=id) (cap:=n) (ob':=⟨0,sz,e,rows⟩) (cs':=x) (w':=w.alloc (.cells x e)) k Z Z Z Z (λo v=>by rw[B]at v;cases v) g g2 (by simp[f]) t s g3
  (get_cons_same _ _ _) (λj hj=>get_cons_other _ _ hj)
 unfold Oper.wpW execOp;simp only[v,Sem.run_bind,f_,Result.andThen_ok,Sem.run_pure];exact hk _ _ I _ _ _ ⟨Z,Z⟩ (.osl ⟨0,sz,e,rows⟩ (get_cons_same _ _ _) (h_ _) Z λ_=>⟨g,by simp[f],.inl ⟨w.heap.size,n,0,H_,H_,λ_=>by simp⟩⟩) W m2
end
end
section
def mu(P:Program)(e:TypeId)(sz bytes:Nat):Prop:=∃i z,P.info? e=some i/\i.zero=some z/\i.size=sz/\i.bytes=bytes/\z.cells.size=sz/\0<sz
theorem C3{f}{m j}{u:α}(h:((List.range m).map f)[j]?=A u):j<m/\u=f j:=G_
theorem XB(f:Nat->α){m j}(B:j<m):((List.range m).map f)[j]?=A (f j):=F_
def uG(w:World)(I:Nat->Prop)(ι:mD)(H:aF)(sz:Nat)(l:List Value)(rows:List (List AV)):Prop :=∀(i:Nat) (r:List AV),rows[i]?=A r->∀(k:Nat) (a:AV),r[k]?=A a->∃u,l[i*sz+k]?=A u/\u.oneCell'=T/\VRel w I ι H u a
theorem uG.app{l1 l2 l3:List Value}{b d:List (List AV)}(m:uG w I ι H sz l1 b)(B:C l1=C b*sz)(n:uG w I ι H sz l2 d):
  uG w I ι H sz (l1++(l2++l3)) (b++d):=by
 intro i r e k a l;by_cases c:i<C b
 .rw[getElem?_append_left c]at e;have ⟨u,f,h,g⟩:=m i r e k a l;have j:=(m9.1 f).1;exact⟨u,G_,h,g⟩
 rw[getElem?_append_right X]at e;have ⟨u,f,h,g⟩:=n _ r e k a l;have j:=(m9.1 f).1;have D:(i - C b)*sz+C b*sz=i*sz:=by rw[<-Nat.add_mul];congr 1;omega
 refine⟨u,?_,h,g⟩
 grind
def Src(w:World)(I:Nat->Prop)(ι:mD)(H:aF)(sz:Nat)(v:Value)(rows:List (List AV)):Prop :=(∃a c B,v=.slice (A a) (C rows) c/\C B=C rows*sz/\(∀j u,B[j]?=A u->w.cell? (a.add j)=A u)/\(∀u∈B,u.oneCell'=T)/\uG w I ι H sz B rows) \/
 (v=.slice ζ 0 0/\rows=[])
theorem Pq(h:j<n*sz):j / sz<n:=(div_lt_iff_lt_mul (by
 grind)).2 h
theorem cf(h:k<sz):(i*sz+k) / sz=i:=by rw[Nat.add_comm,add_mul_div_right _ _ X,div_eq_of_lt h];omega
theorem G8(h:k<sz):(i*sz+k) % sz=k:=by rw[Nat.add_comm,add_mul_mod_self_right,mod_eq_of_lt h]
theorem Jg(h:VRel w I ι H v (.pv (.sl ps)))(R:0<sz)(d:∀r∈ps,C r=sz):Src w I ι H sz v (ps.map (·.map .pv)):=by
 have L:=h.pv_inv;cases L with
 |nilsl=>exact .inr ⟨Z,Z⟩
 |empsl a=>exact .inl ⟨a,0,[],Z,H_,H_,H_,by intro i r o;grind⟩
 | sl b l B c _ r4 hI z n hcap e_ s =>
  by_cases J:ps=[]
  .subst J;exact .inl ⟨⟨b,l,ζ⟩,B,[],Z,H_,H_,H_,by intro i r o;grind⟩
  have P:c=sz:=by
   have ⟨r,rs,e⟩:=exists_cons_of_ne_nil J
   simp_all
  subst P
  let f:Nat->Value:=λj=>r4 (j / c) (j % c)
  have m:∀j,j<C ps*c->∃r p,ps[j / c]?=A r/\r[j % c]?=A p:=by
   intro j y;have t:=Pq y;have W:ps[j / c]∈ps:=getElem_mem t;have G:j % c<C ps[j / c]:=by rw[n _ W];exact mod_lt _ z
   exact⟨_,_,n_ t,n_ G⟩
  refine .inl ⟨⟨b,l,ζ⟩,B,(List.range (C ps*c)).map f,H_,H_,?_,?_,?_⟩
  .intro j u K;obtain ⟨y,rfl⟩:=C3 K;have ⟨r,p,t,G⟩:=m j y;rw[Addr.add_lit];have:=e_ _ r t _ p G;rw[show l+j / c*c+j % c=l+j by have:=div_add_mod' j c;omega]at this;exact this
  .intro u K;have ⟨j,F⟩:=s8.1 K;obtain ⟨y,rfl⟩:=C3 F;have ⟨r,p,t,G⟩:=m j y;exact(s _ r t _ p G).oneCell
  intro i r o k a x;rw[r8]at o;cases e:ps[i]? with
  |none=>rw[e]at o;cases o
  | some q =>
   rw[e]at o;cases o;rw[r8]at x;cases D:q[k]? with
   |none=>rw[D]at x;cases x
   | some p =>
    rw[D]at x;cases x;have Q:i<C ps:=(m9.1 e).1;have g:k<c:=by rw[<-n q (m7 e)];exact(m9.1 D).1
    have E:i*c+k<C ps*c:=by
     have:(i+1)*c<=C ps*c:=mul_le_mul_right _ Q;rw[Nat.add_mul]at this;omega
    refine⟨f (i*c+k),XB f E,?_,?_⟩
    .simp only[f,cf g,G8 g];exact(s i q e k p D).oneCell
    simp only[f,cf g,G8 g];exact .pv (s i q e k p D)
theorem we(A_:Rel I ι H w)(h:VRel w I ι H v (.osl id g off len))(J:H.get id=A ob)(o_:ob.g=g)(i_:ob.sz=sz):
  Src w I ι H sz v ((ob.rows.drop off).take len):=by
 obtain ⟨σ,⟨b,x,W,G,K,F⟩|⟨G,K,F,u_⟩⟩:=jX h J o_
 .obtain ⟨y_,L,⟨b',cap',y,q,R,e3,e4,e5,e5',Q⟩|⟨q,_⟩⟩:=(A_.obj id ob J).cells (qO h J o_)
  .rw[G]at q;cases q;subst i_;have l:C ((ob.rows.drop off).take len)=len:=G_
   have e:∀j,j<len*ob.sz->∃u,y[off*ob.sz+j]?=A u/\u.oneCell'=T/\∀a r,ob.rows[off+j / ob.sz]?=A r->r[j % ob.sz]?=A a->VRel w I ι H u a:=by
    intro j m;have τ:=Pq m;have c:off+j / ob.sz<C ob.rows:=X
    have v_:=getElem_mem c;have s:j % ob.sz<C ob.rows[off+j / ob.sz]:=by rw[L _ v_];exact mod_lt _ y_
    have ⟨u,r4,u4,f_⟩:=Q _ _ (n_ c) _ _ (n_ s);refine⟨u,?_,u4,λa r o d=>?_⟩
    .rw[Nat.add_mul,show off*ob.sz+j / ob.sz*ob.sz+j % ob.sz=off*ob.sz+j by have:=div_add_mod' j ob.sz;omega]at r4;exact r4
    rw[n_ c]at o;cases o;rw[n_ s]at d;cases d;exact f_
   let f:Nat->Value:=λj=>(y[off*ob.sz+j]?).getD undef
   have z:∀j (m:j<len*ob.sz),y[off*ob.sz+j]?=A (f j)/\(f j).oneCell'=T/\∀a r,ob.rows[off+j / ob.sz]?=A r->r[j % ob.sz]?=A a->VRel w I ι H (f j) a:=by
    grind
   by_cases B:len=0
   .subst B;have:(ob.rows.drop off).take 0=[]:=H_
    rw[this];exact .inl ⟨⟨b,W,ζ⟩,x - off,[],F_,H_,H_,H_,by intro i r n;grind⟩
   have d_:=F X;subst d_;refine .inl ⟨⟨b,off*ob.sz,ζ⟩,x - off,(List.range (len*ob.sz)).map f,by rw[K,l],by simp[l],?_,?_,?_⟩
   .intro j u E;obtain ⟨m,rfl⟩:=C3 E;rw[Addr.add_lit,cell_of_row w b _ y ob.ty (0,0) R];exact(z j m).1
   .intro u E;have ⟨j,D⟩:=s8.1 E;obtain ⟨m,rfl⟩:=C3 D;exact(z j m).2.1
   intro i r n k a P;have p:i<len:=by rw[<-l];exact(m9.1 n).1
   rw[getElem?_take,b6 p,getElem?_drop]at n;have t:k<ob.sz:=by rw[<-L r (m7 n)];exact(m9.1 P).1
   have c:i*ob.sz+k<len*ob.sz:=by
    have:(i+1)*ob.sz<=len*ob.sz:=mul_le_mul_right _ p;rw[Nat.add_mul]at this;omega
   refine⟨f (i*ob.sz+k),XB f c,(z _ c).2.1,(z _ c).2.2 a r ?_ ?_⟩
   .rw[cf t];exact n
   rw[G8 t];exact P
  rw[G]at q;cases q
 subst F u_;exact .inr ⟨K,H_⟩
section
variable{o:Oper}{x y:Operand}
theorem zY{i}(a:P.underlying t=A (.slice e))(hi:P.info? e=A i)(b)(n c:Nat)(d:n<=c):
  (Builtin.append_ #[t,t] ty #[.slice b n c,.slice ζ 0 0]).run P w=.ok (.slice b n c) w:=by
 cases b<;>simp[Builtin.append_,run_underlying a,sizeOf,typeInfo,hi,Builtin.lenOf,d,Builtin.firstCells,storeCells]
theorem qw{d:List (List AV)}(ho:o.op=.call {callee:=.builtin .append,args:=#[x,y],argTypes:=#[u4,u4]})(hT:P.underlying u4=A (.slice e))(hinf:mu P e sz bytes)
  (hx:aQ E x=A (.osl id g 0 n)) (A_:H.get id=A ob) (hg:ob.g=g) (hosz:ob.sz=sz) (hty:ob.ty=e) (hn:C ob.rows=n)
  (hsrc:∀(a:Act) (w:World) (I:Nat->Prop) (ι:mD),Rel I ι H w->lS w I ι H E a->Src w I ι H sz (a.eval y) d) (hrl2:∀r∈d,C r=sz) (hm:C d=m) (t:(n+m)*bytes<=140737488355328) (σ:n+m<=9223372036854775807)
  (hH2:H.set id ⟨g+1,sz,e,ob.rows++d⟩=H2):cP P r4 o E H (.osl id (g+1) 0 (n+m)) H2:=by
 intro a w I ι _ _ hr he K Q hk;obtain ⟨i,z,hi,hz,l,hby,hzs,hsz0⟩:=hinf;subst hg hosz hty hn hm hH2;have y_:ob.rows.length+d.length<=maxLen:=by simp only[maxLen];omega
 have W:(H.set id ⟨ob.g+1,ob.sz,ob.ty,ob.rows++d⟩).get id=A ⟨ob.g+1,ob.sz,ob.ty,ob.rows++d⟩:=aF.get_set_same _ _ _;have h2:∀j,j≠id->(H.set id ⟨ob.g+1,ob.sz,ob.ty,ob.rows++d⟩).get j=H.get j:=λj hj=>aF.get_set_other _ _ hj;have p:0<ob.sz:=qO (aJ he hx) A_ Z;have p2:=((hr.obj id ob A_).cells p).2.1;have hrl:∀r∈ob.rows++d,C r=ob.sz:=λr hr'=>by
  grind
 have u_:∀(v':Value) (w':World) (e_:mD),(Builtin.append_ #[u4,u4] o.type #[a.eval x,a.eval y]).run P w=.ok v' w'->VRel w' I e_ (H.set id ⟨ob.g+1,ob.sz,ob.ty,ob.rows++d⟩) v' (.osl id (ob.g+1) 0 (C ob.rows+C d)) ->
   Rel I e_ (H.set id ⟨ob.g+1,ob.sz,ob.ty,ob.rows++d⟩) w'->Step I ι H w I e_ (H.set id ⟨ob.g+1,ob.sz,ob.ty,ob.rows++d⟩) w'->o.wpW P a w K Q:=by
  intro v' w' e_ h k1 J R;unfold Oper.wpW execOp;simp only[ho,resolve,invoke,builtin,Sem.run_bind,Sem.run_pure,Result.andThen_ok,List.map_toArray,List.map_cons,List.map_nil,h];exact hk v' w' I e_ _ _ ⟨Z,Z⟩ k1 J R
 have hs:=hsrc a w I ι hr he;have hvx:=aJ he hx;have ⟨_,κ⟩:=jX hvx A_ Z;rcases κ with⟨b,q,oo,c1,c2,c3⟩|⟨c1,c2,_,c4⟩
 ·obtain ⟨p1,_,⟨b',cap',B,e1,e2,e3,e4,e5,e5',e6⟩|⟨e1,_⟩⟩:=(hr.obj id ob A_).cells p
  ·rw [c1] at e1;cases e1;have hoo:oo=0:=by omega
   subst hoo;rw[Nat.sub_zero]at c2;have ρ:uG w I ι H ob.sz (B.toList.take (C ob.rows*ob.sz)) ob.rows:=by
    intro v_ r s k a' D;obtain ⟨u,q1,q2,q3⟩:=e6 v_ r s k a' D;have hk2:k<ob.sz:=by grind
    have hi2:v_<ob.rows.length:=(m9.1 s).1;have hlt:v_*ob.sz+k<ob.rows.length*ob.sz:=by
     have:(v_+1)*ob.sz<=ob.rows.length*ob.sz:=Nat.mul_le_mul_right _ hi2;rw[Nat.add_mul]at this;omega
    exact⟨u,by grind,q2,q3⟩
   have hle:ob.rows.length*ob.sz<=B.size:=by rw[e4];exact Nat.mul_le_mul_right _ e5
   have i_:(B.toList.take (ob.rows.length*ob.sz)).length=ob.rows.length*ob.sz:=by simp;omega
   rcases hs with⟨ad,c,f,L,G,s3,s4,s5⟩|⟨L,G⟩
   ·by_cases F:ob.rows.length+d.length<=q
    ·-- there is room
     have τ:ob.rows.length*i.size+f.length<=B.size:=by
      rw[G,l,e4,<-Nat.add_mul];exact Nat.mul_le_mul_right _ F
     have h:=run_append_room (P:=P) w u4 o.type ob.ty i hT hi b ob.rows.length q B e2 ad d.length c f (by rw[l];exact G) s3 s4 F τ;rw[l]at h;obtain ⟨J,R⟩:=Rel.update (H':=H.set id ⟨ob.g+1,ob.sz,ob.ty,ob.rows++d⟩) (ob':=⟨ob.g+1,ob.sz,ob.ty,ob.rows++d⟩)
      (cs':=(B.toList.take (ob.rows.length*ob.sz)++f++B.toList.drop (ob.rows.length*ob.sz+f.length)).toArray) hr A_ c1 e2 (by simp) Z Z (λe=>by simp at e) (by
       rw[l]at τ;simp only[size_toArray,j8,m_,p_,Array.length_toList];omega) (by simpa using F) hrl (λv_ r s k a' D=>by
        have:=uG.app (l3:=B.toList.drop (C ob.rows*ob.sz+C f)) ρ i_ s5 v_ r s k a' D
        simpa[List.append_assoc]using this) W h2
     exact u_ _ _ ι (by rw[c2,L];exact h) (.osl _ W (h_ _) Z λ_=>⟨p,by simp,.inl ⟨b,q,0,c1,by simp,λ_=>by simp⟩⟩) J R
    have β:∀j v,(B.toList.take (ob.rows.length*ob.sz))[j]?=some v->w.cell? ((⟨b,0,none⟩:Addr).add j)=some v:=by
     intro j v hv;rw[Addr.add_lit,r7,cell_of_row w b _ B ob.ty (0,0) e2];rw[getElem?_take]at hv
     split at hv
     ·simpa using hv
     cases hv
    have h:=run_append_grow (P:=P) w u4 o.type ob.ty i z hT hi hz ⟨b,0,none⟩ ob.rows.length q _ (by rw[l];exact i_) β ad d.length c f (by rw[l];exact G) s3 (by omega) (by omega) (growslice_fits (by omega) (by rw[hby];exact t));have γ:=grownCap_ge w (ob.rows.length+d.length) q ob.ty;have δ:=grownCap_le_maxLen w (ob.rows.length+d.length) q ob.ty y_;obtain ⟨J,R⟩:=Rel.place (H':=H.set id ⟨ob.g+1,ob.sz,ob.ty,ob.rows++d⟩) (id:=id) (cap:=grownCap w (ob.rows.length+d.length) q ob.ty) (ob':=⟨ob.g+1,ob.sz,ob.ty,ob.rows++d⟩)
     (cs':=(B.toList.take (ob.rows.length*ob.sz)).toArray++f.toArray++Builtin.zeroCells z.cells (grownCap w (ob.rows.length+d.length) q ob.ty - (ob.rows.length+d.length)))
     (w':=w.drew.alloc (.cells ((B.toList.take (ob.rows.length*ob.sz)).toArray++f.toArray++Builtin.zeroCells z.cells (grownCap w (ob.rows.length+d.length) q ob.ty - (ob.rows.length+d.length))) ob.ty)) hr Z Z Z Z
     (λo' f_=>by rw[A_]at f_;cases f_;simp) p1 (by
      simp only[Array.size_append,List.size_toArray,size_zeroCells,hzs,i_,G,<-Nat.add_mul];congr 1;omega) (by simpa using γ) δ hrl (λv_ r s k a' D=>by
       have ⟨u,q1,q2,q3⟩:=uG.app (l3:=(Builtin.zeroCells z.cells (grownCap w (C ob.rows+C d) q ob.ty - (C ob.rows+C d))).toList) ρ i_ s5 v_ r s k a' D;refine⟨u,?_,q2,q3⟩;rw[<-Array.getElem?_toList]
       simpa[List.append_assoc]using q1) W h2
    exact u_ _ _ _ (by rw[c2,L];exact h) (.osl _ W (h_ _) Z λ_=>⟨p,by simp,.inl ⟨w.heap.size,_,0,by simp;rfl,by simp,λ_=>by simp⟩⟩) J R
   subst G;have h:=zY (P:=P) (ty:=o.type) (w:=w) hT hi (A ⟨b,0,ζ⟩) (C ob.rows) q e5;have ⟨J,R⟩:=Rel.tick (H':=H.set id ⟨ob.g+1,ob.sz,ob.ty,ob.rows++[]⟩) (ob':=⟨ob.g+1,ob.sz,ob.ty,ob.rows++[]⟩) hr A_ H_ Z Z H_ W h2;exact u_ _ _ ι (by rw[c2,L];exact h) (.osl _ W (h_ _) Z λ_=>⟨p,H_,.inl ⟨b,q,0,c1,H_,λ_=>by simp⟩⟩) J R
  rw[c1]at e1;cases e1
 have d_:ob.rows=[]:=List.eq_nil_of_length_eq_zero c4;have z_:d=[]->o.wpW P a w K Q:=by
  intro h0;subst h0;have h:(Builtin.append_ #[u4,u4] o.type #[a.eval x,a.eval y]).run P w=.ok (.slice none 0 0) w:=by
   rcases hs with⟨ad,c,f,L,G,s3,s4,s5⟩|⟨L,G⟩
   ·rw[c2,L];simp[Builtin.append_,run_underlying hT,sizeOf,typeInfo,hi,Builtin.lenOf,Builtin.firstCells,loadCells,loadCellsFrom]
   rw[c2,L];exact zY (P:=P) (ty:=o.type) (w:=w) hT hi ζ 0 0 (h_ _)
  obtain ⟨J,R⟩:=Rel.tick (H':=H.set id ⟨ob.g+1,ob.sz,ob.ty,ob.rows++[]⟩) (ob':=⟨ob.g+1,ob.sz,ob.ty,ob.rows++[]⟩) hr A_ (by simp) Z Z (by simp) W h2;exact u_ _ _ ι h (.osl _ W (h_ _) Z λ_=>⟨p,by simp,.inr ⟨c1,Z,Z,by simp[d_]⟩⟩) J R
 by_cases h0:d=[]
 ·exact z_ h0
 have p:0<d.length:=List.length_pos_iff.2 h0;rcases hs with⟨ad,c,f,L,G,s3,s4,s5⟩|⟨L,G⟩
 .rw [d_] at t y_ σ;simp only [length_nil,r7] at t y_ σ;have h:=run_append_nil (P:=P) w u4 o.type ob.ty i z hT hi hz ad (C d) c f (by rw [l];exact G) s3 p X (by rw [hby];omega);have γ:=grownCap_ge w (C d) 0 ob.ty;have δ:=grownCap_le_maxLen w (C d) 0 ob.ty y_;have ⟨J,R⟩:=Rel.place (H':=H.set id ⟨ob.g+1,ob.sz,ob.ty,ob.rows++d⟩) (id:=id) (cap:=grownCap w (C d) 0 ob.ty) (ob':=⟨ob.g+1,ob.sz,ob.ty,ob.rows++d⟩)
   (cs':=f.toArray++Builtin.zeroCells z.cells (grownCap w d.length 0 ob.ty - d.length))
   (w':=w.drew.alloc (.cells (f.toArray++Builtin.zeroCells z.cells (grownCap w d.length 0 ob.ty - d.length)) ob.ty)) hr Z Z Z Z
   (λo' f_=>by rw[A_]at f_;cases f_;simp) hsz0 (by
    simp only[Array.size_append,List.size_toArray,size_zeroCells,hzs,G,<-Nat.add_mul];congr 1;omega) (by simpa[d_]using γ) δ hrl (λv_ r s k a' D=>by
     rw[d_]at s;simp only[List.nil_append]at s;obtain ⟨u,q1,q2,q3⟩:=s5 v_ r s k a' D;have hlt:=(m9.1 q1).1;refine⟨u,?_,q2,q3⟩;rw[Array.getElem?_append_left (by simpa using hlt)]
     simpa using q1) W h2
  refine u_ _ _ _ (by rw[c2,L];exact h) (.osl _ W (h_ _) Z λ_=>⟨(qO (aJ he hx) A_ rfl:0<ob.sz),H_,.inl ⟨w.heap.size,_,0,by simp;rfl,by simp[d_],λ_=>by simp⟩⟩) J R
 exact absurd G h0
theorem V3{e}{ps}{H2}(L:o.op=.call {callee:=.builtin .append,args:=#[x,y],argTypes:=#[u4,u4]})(D:P.underlying u4=A (.slice e))(d:mu P e sz bytes)
  (p:aQ E x=A (.osl id g 0 n)) (t:H.get id=A ob) (J:ob.g=g) (c:ob.sz=sz) (h:ob.ty=e) (u:C ob.rows=n)
  (q:aQ E y=A (.pv (.sl ps))) (j:∀r∈ps,C r=sz) (R:C ps=m) (b:(n+m)*bytes<=140737488355328) (f:n+m<=9223372036854775807)
  (k:H.set id ⟨g+1,sz,e,ob.rows++ps.map (·.map AV.pv)⟩=H2):cP P r4 o E H (.osl id (g+1) 0 (n+m)) H2:=by
 have ⟨i,z,B,K,F,Q,s,l⟩:=d;exact qw L D ⟨i,z,B,K,F,Q,s,l⟩ p t J c h u (λa w I ι v G=>Jg (aJ G q) l j) (λr v=>by
  grind) F_ b f k
theorem VU{c:Nat}{W k2:IntKind}{p b:Int}{d:List AV}(v_:o.op=.makeSlice u4 x y)(hT:P.underlying u4=A (.slice e))(t:mu P e sz bytes)(hz:∀w,(zeroValue e).run P w=.ok z w)(hv:ZV z v0)(c_:RD v0=A d)(g:C d=sz)
  (hx:aQ E x=A (.pv (.int W p))) (hy:aQ E y=A (.pv (.int k2 b))) (h1:0<=p) (h2:p<=b) (hl:p.toNat=l) (hc:b.toNat=c) (hb:bytes*c<=281474976710656) (B:b<=9223372036854775807) (τ:H.get id=ζ) :
  cP P r4 o E H (.osl id 0 0 l) ((id,⟨0,sz,e,List.replicate l d⟩)::H):=by
 intro a w I ι _ _ hr J K Q hk;have ⟨i,q,y_,j,f,L,e_,m⟩:=t;have D:q=z:=by
  have:=hz w;simp[zeroValue,typeInfo,y_,j]at this;exact this
 subst D hl hc;have e1:=(aJ J hx).int_inv;have e2:=(aJ J hy).int_inv;have G:(i.bytes:Int)*b<=281474976710656:=by
  have h:=hb;rw[<-L]at h;have u_:((i.bytes*b.toNat:Nat):Int)<=281474976710656:=by omega
  rw[Int.natCast_mul]at u_
  rwa [Int.toNat_of_nonneg X]at u_
 have d_:=run_make (P:=P) w u4 e i q hT y_ j W k2 p b h1 h2 G B;have R:=CK.of_cells (ZV.rel (w:=w) (I:=I) (ι:=ι) (H:=H) hv) c_;have ⟨f_,k3⟩:=Rel.place (H':=(id,⟨0,sz,e,List.replicate p.toNat d⟩)::H) (id:=id) (cap:=b.toNat) (ob':=⟨0,sz,e,List.replicate p.toNat d⟩) (cs':=madeCells q.cells (b.toNat*i.size))
  (w':=w.alloc (.cells (madeCells q.cells (b.toNat*i.size)) e)) hr Z Z Z Z (λo v_=>by simp_all) m (by rw[size_madeCells,f]) (by grind) (by simp only[maxLen];omega)
  (λr σ=>by simp_all)
  (λz_ r n k a' F=>by
   rw[getElem?_replicate]at n
   split at n
   .cases n;rename_i hlt;have o_:k<sz:=G_
    have ⟨u,A_,q2,q3⟩:=R.2 k a' F;refine⟨u,?_,q2,q3⟩;have s:z_*sz+k<b.toNat*sz:=by
     have:(z_+1)*sz<=b.toNat*sz:=mul_le_mul_right _ X;rw[Nat.add_mul]at this;omega
    have v:k<q.cells.size:=X
    rw[Array.getElem?_eq_getElem v]at A_;cases A_;simp only[madeCells,Array.getElem?_map,f];rw[Array.getElem?_range];simp only[s,if_true,Option.map_some,e_,G8 o_];rw[getElem!_pos q.cells k v]
   simp_all) (get_cons_same _ _ _) (λj hj=>get_cons_other _ _ hj)
 unfold Oper.wpW execOp;simp only[v_,e1,e2,Sem.run_bind,d_,Result.andThen_ok,Sem.run_pure];exact hk _ _ I _ _ _ ⟨Z,Z⟩ (.osl _ (get_cons_same _ _ _) (h_ _) Z λ_=>⟨m,by simp,.inl ⟨w.heap.size,b.toNat,0,by simp,by simp,λ_=>by simp⟩⟩) f_ k3
theorem Rel.congr{I}{ι}{H H'}{w}(f:Rel I ι H w)(h:∀j,H'.get j=H.get j):Rel I ι H' w/\Step I ι H w I ι H' w:=by
 have e:Step I ι H w I _ _ w:=⟨Z,Z,Z,h_ _,λ_ _ _=>rfl,λ_ h=>h,λ_ h=>.inl h,λb ⟨j,o,c,i,k⟩=>.inl ⟨j,o,c,(h j).symm.trans i,k⟩,λ_ _ _=>rfl,
  λj o g=>⟨o,(h j).trans g,h_ _,λ_=>⟨Z,Z,λ_=>h_ _⟩⟩⟩
 refine⟨⟨f.imm,λj o g=>?_,λj D o E b c B i k=>f.inj j _ o _ b c _ ((h j).symm.trans i) ((h _).symm.trans k),e.glob f⟩,e⟩;exact(f.obj j o ((h j).symm.trans g)).keep Z (λ_ _ _ _=>⟨Z,λh=>h⟩) (λr _ a _ v l=>l.mono f e)
def fV(s:List UInt8):List (List AV):=s.map λb=>[.pv (.int .u8 b.toNat)]
theorem m3{p:Prop}(h:p:=by simp;rfl):p:=h
theorem V1{bs:List UInt8}{r:B_}(v:o.op=.convert f_ u4 x)(hS:P.underlying f_=some (.slice e))(i:P.underlying e=some (.int .u8))(B:P.underlying u4=some .string)
  (d_:aQ E x=some (.osl id g off len)) (e_:H.get id=some ob) (v_:ob.g=g) (q:ob.sz=1) (F:(ob.rows.drop off).take len=fV bs) (c_:(⟨bs.toArray⟩:B_)=r):cP P r4 o E H (.pv (.str r)) H :=
 .of_run λa w I ι l u_=>by
  have s:=aJ u_ d_;have h:=we l s e_ v_ q;rw[F]at h;subst c_;refine⟨.string ⟨bs.toArray⟩,?_,.pv (.str _)⟩;rcases h with⟨p,c,d,m,t,D,s4,G⟩|⟨m,t⟩
  ·have hnews:d=bs.map λb=>Value.int .u8 b.toNat:=by
    apply List.ext_getElem?;intro j;by_cases z:j<bs.length
    ·obtain ⟨u,i_,q2,R⟩:=G j [.pv (.int .u8 (bs[j]'z).toNat)] (by simp[fV,n_ z]) 0 _ m3;rw[Nat.mul_one,Nat.add_zero]at i_;rw[i_,R.int_inv]
     simp_all
    rw[getElem?_eq_none (by rw[t];simp[fV];omega),getElem?_eq_none G_]
   have o_:(loadCells p (fV bs).length).run P w=.ok ((bs.map λb=>(b.toNat:Int)).map (Value.int .u8)).toArray w:=by
    have L:(bs.map λb=>(b.toNat:Int)).map (Value.int .u8)=d:=by simp_all
    have Q:(fV bs).length=d.length:=X
    rw[L,Q];exact run_loadCells_list (P:=P) w p d D
   simp only[execOp,v,m,Sem.run_bind];rw[run_convert_bytes_string w f_ u4 e _ _ c hS i B,run_bytesToString w p _ c _ o_,foldl_push_bytes];have K:(bs.map λb=>(b.toNat:Int)).map (λn=>UInt8.ofNat n.toNat)=bs:=by
    rw[List.map_map]
    conv=>rhs;rw[<-List.map_id bs]
    refine List.map_congr_left λb _=>?_;simp
   rw[K];simp[ByteArray.empty,ByteArray.emptyWithCapacity];rfl
  have:bs=[]:=by simpa[fV]using t
  subst this;simp only[execOp,v,m,Sem.run_bind];rw[run_convert_bytes_string w f_ u4 e _ _ 0 hS i B];simp[Conv.bytesToString];rfl
end
end
section
structure Rec where
 v:AV
 R:Option (List Nat)
 W:aF
def PF:List Nat->Nat->Bool
 | [],_=>η
 |x::r,t=>cond (Nat.beq x t) T (PF r t)
theorem LK{l}{t}:PF l t=T↔t∈l:=by
 induction l with
 |nil=>simp[PF]
 | cons x r a =>
  cases e:Nat.beq x t with
  |true =>
   have:=eq_of_beq_eq_true e;simp[PF,e,this]
  |false =>
   have:x≠t:=λh=>by simp_all
   simp[PF,e,a,Ne.symm this]
def uF:Option (List Nat)->Nat->Bool
 |none,_=>T
 |some l,t=>PF l t
def iu:List Operand->List Nat
 | []=>[]
 |.tmp t::r=>t::iu r
 |_::r=>iu r
def jD(ops:List Oper)(o:Oper):List Nat :=match o.guard with
 |none=>iu o.op.operands.toList
 |some (j,_)=>match jZ ops j with
  |some t=>t::iu o.op.operands.toList
  |none=>iu o.op.operands.toList
def restr(E:dG):List Nat->dG
 | []=>[]
 |t::r=>match E.get t with
  |some v=>(t,v)::restr E r
  |none=>restr E r
theorem W7{E}{l}:∀p∈restr E l,E.get p.1=A p.2/\p.1∈l:=by
 induction l with
 |nil=>simp[restr]
 |cons t r B =>
  intro p a;unfold restr at a
  grind
inductive DStep(P:Program)(r4:Nat)(ops:List Oper)(o:Oper)(E:dG)(H:aF)(r:Rec):Prop
 |plain (hg:o.guard=ζ) (h:∀H1:aF,(∀id,uF r.R id=T->H1.get id=H.get id)->cP P r4 o (restr E (jD ops o)) H1 r.v (r.W++H1))
 | on (j:Nat) (want:Bool) (t:Tmp) (b:Bool) (hg:o.guard=A (j,want)) (hj:jZ ops j=A t) (hb:E.get t=A (.pv (.bool b))) (hw:b=want)
   (h:∀H1:aF,(∀id,uF r.R id=T->H1.get id=H.get id)->cP P r4 o (restr E (jD ops o)) H1 r.v (r.W++H1))
 |off (j:Nat) (want:Bool) (t:Tmp) (x:AV) (hg:o.guard=A (j,want)) (hj:jZ ops j=A t) (hb:E.get t=A x) (hw:offB want x=T) (hv:r.v=.tup []) (hW:r.W=[])
inductive DChain(P:Program)(r4:Nat)(ops:List Oper):List Oper->dG->aF->List Rec->dG->aF->Prop
 |nil {E:dG} {H:aF}:DChain P r4 ops [] E H [] E H
 | cons {o:Oper} {rest:List Oper} {E E':dG} {H H':aF} {r:Rec} {rs:List Rec} (h:DStep P r4 ops o E H r) (hd:jI r4 o.dst=T) (hr:DChain P r4 ops rest (nR E o.dst r.v) (r.W++H) rs E' H') :
   DChain P r4 ops (o::rest) E H (r::rs) E' H'
structure Ent2 where
 o:Oper
 r:Rec
def P0(E:dG)(l:List Ent2)(f_:Nat->Bool):Nat->Nat->Option AV
 |0,t=>E.get t
 |k+1,t=>match l[k]? with
  |some x=>if f_ k=T/\x.o.dst=A t then A x.r.v else P0 E l f_ k t
  |none=>P0 E l f_ k t
def OK(H:aF)(l:List Ent2)(f_:Nat->Bool):Nat->Nat->Option Ob
 |0,id=>H.get id
 |k+1,id=>match l[k]? with
  |some x=>if f_ k=T/\(x.r.W.get id).isSome=T then x.r.W.get id else OK H l f_ k id
  |none=>OK H l f_ k id
theorem QU(W H)(id):aF.get (W++H) id=match W.get id with|some o=>A o|none=>H.get id:=by
 induction W with
 |nil=>rfl
 |cons x r a =>
  have ⟨i,o⟩:=x;cases e:Nat.beq i id with
  |true=>simp[aF.get,e]
  |false=>simpa[aF.get,e]using a
def hkeys(W:aF):List Nat:=W.map (·.1)
def qW(ops:List Oper)(x y:Ent2):Bool :=(match x.o.dst with
   |some d=>PF (jD ops y.o) d||(match y.o.dst with|some e=>Nat.beq e d|none=>η)
   |none=>η) ||
  (match y.o.dst with
   |some d=>PF (jD ops x.o) d
   |none=>η) ||
  (hkeys x.r.W).any (λi=>uF y.r.R i||PF (hkeys y.r.W) i) ||
  (hkeys y.r.W).any (λi=>uF x.r.R i)
def vZ(acc:List Nat):List Edge->Nat
 | []=>0
 |e::r=>if Region.binds .any e then((1 <<< e.on) ||| acc.getD e.on 0) ||| vZ acc r else vZ acc r
def Zp:List Oper->List Nat->List Nat
 | [],acc=>acc
 |o::r,acc=>Zp r (acc++[vZ acc o.after.toList])
def QI(ops:List Oper)(B:List Nat):Nat->List Ent2->List Ent2->Bool
 |_,_,[]=>T
 |j,prev,y::r=>(prev.zipIdx.all λ(x,i)=>!qW ops x y||(B.getD j 0).testBit i)&&QI ops B (j+1) (prev++[y]) r
def QJ:Nat->List Oper->Bool
 |_,[]=>T
 |j,o::r=>(o.after.toList.all λe=>!Region.binds .any e||Nat.blt e.on j)&&QJ (j+1) r
def TB(ops:List Oper)(rs:List Rec):Bool :=QJ 0 ops&&QI ops (Zp ops []) 0 [] (List.zipWith Ent2.mk ops rs)
def Zw(ops:List Oper)(f_:Nat->Bool):Prop:=∀j o,ops[j]?=A o->f_ j=T->∀e∈o.after.toList,Region.binds .any e=T->f_ e.on=T
def Pre(ops:List Oper)(i j:Nat):Prop:=∀f_,Zw ops f_->∀o,ops[j]?=A o->(∀e∈o.after.toList,Region.binds .any e=T->f_ e.on=T)->f_ i=T
theorem WG{acc:List Nat}(c:∀j,j<C acc->∀i,(acc.getD j 0).testBit i=T->Pre ops i j)(B:C acc<=C ops):
  ∀(l:List Edge) (i:Nat),(vZ acc l).testBit i=T->∀f_,Zw ops f_->(∀e∈l,Region.binds .any e=T->f_ e.on=T)->f_ i=T:=by
 intro l
 induction l with
 |nil=>intro i h;simp[vZ]at h
 | cons e r p =>
  intro i h f_ k g;unfold vZ at h
  split at h
  .rename_i o;rw[testBit_or,testBit_or,Bool.or_eq_true,Bool.or_eq_true]at h;rcases h with(h|h)|h
   .have:e.on=i:=by
     rw[testBit_shiftLeft]at h;simp only[l6,k_]at h;have q:=h.2;rw[testBit_one_eq_true_iff_self_eq_zero]at q;omega
    rw[<-this];exact g e H_ o
   .by_cases s:e.on<C acc
    .have f:e.on<C ops:=X
     have m:=g e H_ o;exact c e.on s i h f_ k _ (n_ f) (λd a n=>k e.on _ (n_ f) m d a n)
    simp[List.getD,getElem?_eq_none (show C acc<=e.on by omega)]at h
   exact p i h f_ k (λd a=>g d (by simp[a]))
  exact p i h f_ k (λd a=>g d (by simp[a]))
theorem Fk:∀(rest b:List Oper) (acc:List Nat),ops=b++rest->C acc=C b->(∀j,j<C acc->∀i,(acc.getD j 0).testBit i=T->Pre ops i j) ->
  ∀j i,((Zp rest acc).getD j 0).testBit i=T->Pre ops i j:=by
 intro rest
 induction rest with
 |nil =>
  intro b acc k f g j i c;by_cases h:j<C acc
  .exact g j h i c
  simp[Zp,List.getD,getElem?_eq_none (show C acc<=j by omega)]at c
 | cons o r q =>
  intro b acc k f g;refine q (b++[o]) (acc++[vZ acc o.after.toList]) F_ (by simp[f]) ?_;intro j h i c;by_cases e:j<C acc
  .have m:(acc.getD j 0).testBit i=T:=by simpa[List.getD,getElem?_append_left e]using c
   exact g j e i m
  have n:j=C acc:=by simp at h;omega
  subst n;have c:(vZ acc o.after.toList).testBit i=T:=by simpa[List.getD]using c
  intro f_ p s d l;have:s=o:=by
   rw[k,getElem?_append_right X,f]at d;simp at d;exact d.symm
  subst this;exact WG g (by rw[k,f];simp) _ i c f_ p l
theorem bb{c:List Nat}:∀(rest a:List Ent2),QI ops c (C a) a rest=T->∀i j,i<j->C a<=j->∀x y,(a++rest)[i]?=A x->(a++rest)[j]?=A y->qW ops x y=T->(c.getD j 0).testBit i=T:=by
 intro rest
 induction rest with
 |nil =>
  simp_all
 | cons z r q =>
  intro a h i j b B x y f d k;simp only[QI,l6]at h;by_cases e:j=C a
  .subst e;have m:y=z:=by
    simp at d;exact d.symm
   subst m;have g:=by rw[getElem?_append_left b]at f;exact f
   have o:(x,i)∈a.zipIdx:=by rw[mem_zipIdx_iff_getElem?];exact g
   have:=all_eq_true.1 h.1 _ o
   simpa[k]using this
  have l:=h.2;have p:C a+1=C (a++[z]):=H_
  rw[p]at l;have n:a++z::r=(a++[z])++r:=H_
  rw[n]at f d;exact q (a++[z]) l i j b u7 x y f d k
theorem bf:∀(l) (k),QJ k l=T->∀j o,l[j]?=A o->∀e∈o.after.toList,Region.binds .any e=T->e.on<k+j:=by
 intro l
 induction l with
 |nil=>simp_all
 | cons x r ih =>
  intro k h j o a e b c;simp only[QJ,l6]at h;cases j with
  |zero =>
   simp at a;subst a;have:=all_eq_true.1 h.1 e b
   simpa[c]using this
  |succ j =>
   grind
section
theorem GG {l} {f_} {t}:∀ (n k),k<=n->(∀ j x,l[j]?=A x->x.o.dst=A t->(j < k->f_ j=T)/\(k<=j->j < n->f_ j=η))->P0 E l f_ n t=P0 E l (λ_=>T) k t:=by
  intro n
  induction n with
  | zero => intro k a h; have : k = 0 := by omega
            subst this;rfl
  | succ n ih =>
    intro k a h;by_cases e:k=n+1
    · subst e
      rw[P0,P0]
      grind
    · rw[P0]
      grind
theorem GF {l} {f_} {id}:∀ (n k),k<=n->(∀ j x,l[j]?=A x->(x.r.W.get id).isSome=T->(j < k->f_ j=T)/\(k<=j->j < n->f_ j=η))->OK H l f_ n id=OK H l (λ_=>T) k id:=by
  intro n
  induction n with
  | zero => intro k a h; have : k = 0 := by omega
            subst this;rfl
  | succ n ih =>
    intro k a h;by_cases e:k=n+1
    · subst e
      rw[OK,OK]
      grind
    · rw[OK]
      grind
end
theorem cP.restr{P}{r4}{o}{E b}{H1 H2}{l}{v}(h:cP P r4 o (restr E l) H1 v H2)(k:∀t,t∈l->b.get t=E.get t):cP P r4 o b H1 v H2:=by intro a w I ι j i f g K Q e;refine h a w I _ j i f (λt v d=>?_) K Q e;have c:=W7 _ (iS d);exact g t v ((k t c.2).trans c.1)
theorem cH.get{G0}{E E'}{H H'}(g:∀t,E'.get t=E.get t)(h:∀j,H'.get j=H.get j):cH G0 E H E' H':=by intro G B r4 a w d;obtain ⟨I,n,e,b,k⟩:=d.rel;obtain ⟨i,f⟩:=e.congr h;refine⟨d.defers,d.size,I,n,i,b.trans f,λt v o=>?_⟩;obtain ⟨c,m,l⟩:=k t v ((g t).symm.trans o);exact⟨c,m,l.mono e f⟩
theorem PK{ops}{x y:Ent2}(h:x.o.dst=A d)(a:d∈jD ops y.o):qW ops x y=T:=by simp[qW,h,LK.2 a]
theorem ID{ops}{x y:Ent2}(h:x.o.dst=A d)(a:y.o.dst=A d):qW ops x y=T:=by simp[qW,h,a,pW]
theorem PJ{ops}{x y:Ent2}(h:y.o.dst=A d)(a:d∈jD ops x.o):qW ops x y=T:=by simp[qW,h,LK.2 a]
theorem AD{W}{id}(h:(W.get id).isSome=T):id∈hkeys W:=by have ⟨o,a⟩:=Option.isSome_iff_exists.1 h;exact mem_map.2 ⟨_,eH a,Z⟩
theorem Ez{ops}{x y}{id}(h:(x.r.W.get id).isSome=T)(B:uF y.r.R id=T):qW ops x y=T:=by have:(hkeys _).any (λi=>uF y.r.R i||PF (hkeys y.r.W) i)=T:=any_eq_true.2 ⟨id,AD h,G_⟩;simp[qW,this]
theorem Y4{ops}{x y}{id}(h:(x.r.W.get id).isSome=T)(b:(y.r.W.get id).isSome=T):qW ops x y=T:=by have:(hkeys _).any (λi=>uF y.r.R i||PF (hkeys y.r.W) i)=T:=any_eq_true.2 ⟨id,AD h,by simp[LK.2 (AD b)]⟩;simp[qW,this]
theorem Fb{ops}{x y}{id}(h:(y.r.W.get id).isSome=T)(a:uF x.r.R id=T):qW ops x y=T:=by have:=any_eq_true.2 ⟨id,AD h,a⟩;simp[qW,this]
theorem cP.any_heap{P}{r4}{o}{E}{H H1}{v}(h:cP P r4 o E H v H)(g:∀j,H1.get j=H.get j):cP P r4 o E H1 v H1:=by intro a w I ι s q f k K Q l;have ⟨m,i⟩:=f.congr (λj=>(g j).symm);refine h a w I _ s q m (λt v y=>let ⟨c,p,u⟩:=k t v y;⟨c,p,u.mono f i⟩) K Q ?_;rintro c w' D B r H' ⟨rfl,rfl⟩ n b d;have ⟨x,e⟩:=b.congr g;exact l c _ _ _ _ _ ⟨Z,Z⟩ (n.mono b e) x ((i.trans d).trans e)
theorem DStep.q{P}{r4}{ops}{o}{E}{H}{v}(a:o.guard=ζ)(h:cP P r4 o (restr E (jD ops o)) H v H):DStep P r4 ops o E H ⟨v,ζ,[]⟩ :=.plain a λH1 b=>h.any_heap λj=>b j Z
theorem DStep.qon{P}{r4}{ops}{o}{E}{H}{v}{j}{a}{t}{b}(f:o.guard=A (j,a))(d:jZ ops j=A t)(c:E.get t=A (.pv (.bool b)))(g:b=a)(h:cP P r4 o (restr E (jD ops o)) H v H):DStep P r4 ops o E H ⟨v,ζ,[]⟩ :=.on j _ t b f d c g λH1 e=>h.any_heap λj=>e j Z
theorem DStep.qoff{P}{r4}{ops}{o}{E}{H}{j}{a}{t}{x}(d:o.guard=A (j,a))(c:jZ ops j=A t)(b:E.get t=A x)(e:offB a x=T):DStep P r4 ops o E H ⟨.tup [],A [],[]⟩ :=.off j _ t x d c b e Z Z
abbrev ef:=List PanicEntry
def EP(P:Program)(r4:Nat)(o:Oper)(E:dG)(H:aF)(R:AV->aF->Prop)(PP:ef->aF->Prop):Prop :=∀(a:Act) (w:World) (I:Nat->Prop) (ι:mD),a.tmps.size=r4->Rel I ι H w->lS w I ι H E a->∀(K:Act->World->Prop) (Q:Exit->Act->World->Prop),
  (∀c w' D B r H',R r H'->VRel w' D B H' c r->Rel D B H' w'->Step I ι H w D B H' w'->K (a.put o.dst c) w') ->
  (∀ch w' D B H',PP ch H'->Rel D B H' w'->Step I ι H w D B H' w'->Q (.panic ch) a w')->o.wpW P a w K Q
section
variable{ops:Array Oper}{o:Oper}{R:AV->aF->Prop}{PP:ef->aF->Prop}
theorem St.opP{G}{a}{w}(e:St G r4 E H a w)(D:jI r4 o.dst=T)(h:EP P r4 o E H R PP){K}{Q}
  (u:∀r H' B w',R r H'->St G r4 (nR E o.dst r) H' B w'->K B w') (m:∀j H' w',PP j H'->St G r4 E H' a w'->Q (.panic j) a w') {ro} (z:ro=ζ\/o.noDefer=T):o.wpIn (RF ro) 0 P a w K Q:=by
 refine Oper.wpW_in z ?_;obtain ⟨I,ι,g,i,l⟩:=e.rel;refine h a w I _ e.size g l K Q ?_ ?_
 ·intro c w' k d r H' s x f b;refine u r _ _ _ s ⟨?_,?_,k,d,f,i.trans b,lS.put g b l x (by rw[e.size];exact D)⟩
  .rw[mN];exact e.defers.step g b
  have:=e.size;cases o.dst<;>simpa[Act.put]using this
 intro j w' k d H' p f b;exact m _ _ _ p ⟨e.defers.step g b,e.size,k,d,f,i.trans b,λt v n=>let ⟨c,q,y⟩:=l t v n;⟨c,q,y.mono g b⟩⟩
end
def nB(o o':Ob):Prop:=o'.g=o.g/\o'.sz=o.sz/\o'.ty=o.ty/\o'.rows.map List.length=o.rows.map List.length
theorem nB.rfl{o}:nB o o:=⟨_root_.rfl,_root_.rfl,_root_.rfl,_root_.rfl⟩
def Shp(ids:List Nat)(H H1:aF):Prop:=∀id∈ids,∀o,H.get id=A o->∃B,H1.get id=A B/\nB o B
def yi:List Nat->List Nat->Bool
 | [],[]=>T
 |a::r,b::q=>Nat.beq a b&&yi r q
 |_,_=>η
theorem jn:∀ {a b},yi a b=T->a=b
 | [],[],_=>rfl
 |a::r,b::q,h=>by
  rw[yi,l6]at h;rw[Nat.eq_of_beq_eq_true h.1,jn h.2]
 | [],_::_,h=>by cases h
 |_::_,[],h=>by cases h
def aDZ(o o':Ob):Bool:=Nat.beq o'.g o.g&&(Nat.beq o'.sz o.sz&&(Nat.beq o'.ty o.ty&&yi (o'.rows.map List.length) (o.rows.map List.length)))
def Ur(ids:List Nat)(H:aF)(rs:List Rec):Bool:=rs.all λr=>ids.all λid=>match r.W.get id with
 |none=>T
 |some B=>match H.get id with
  |none=>T
  |some o=>aDZ o B
theorem Ca{b}{H}{e}(h:Ur b H e=T):∀r∈e,∀id∈b,∀B,r.W.get id=A B->∀o,H.get id=A o->nB o B:=by intro r f id d B c o g;have a:=all_eq_true.1 (all_eq_true.1 h r f) _ d;simp only[c,g,aDZ,l6]at a;exact⟨eq_of_beq_eq_true a.1,eq_of_beq_eq_true a.2.1,eq_of_beq_eq_true a.2.2.1,jn a.2.2.2⟩
theorem ZQ{H}{l}{f_}{id}{o}(b:H.get id=A o)(h:∀y∈l,∀B,y.r.W.get id=A B->nB o B):∀n,∃B,OK H l f_ n id=A B/\nB o B
 |0=>⟨o,b,.rfl⟩
 | n+1=>by
  rw[OK];cases e:l[n]? with
  |none=>exact ZQ b h n
  | some y =>
   simp
   split
   .next c =>
    obtain ⟨B,D⟩:=Option.isSome_iff_exists.1 c.2
    grind
   exact ZQ b h n
def yn(B:List Nat)(rs:List Rec):Bool:=rs.all λr=>B.all λid=>match r.W.get id with
 |none=>T
 |some _=>η
theorem se{B}{c}(h:yn B c=T):∀id∈B,∀r∈c,r.W.get id=ζ:=by
 intro id a r d;have b:=all_eq_true.1 (all_eq_true.1 h r d) _ a;cases e:r.W.get _ with
 |none=>rfl
 |some o=>rw[e]at b;cases b
theorem R5{H}{l}{f_}{id}(h:∀y∈l,y.r.W.get id=ζ):∀n,OK H l f_ n id=H.get id
 |0=>rfl
 | n+1=>by
  rw[OK];cases e:l[n]? with
  |none=>exact R5 h n
  |some y =>
   simp;rw[a8 (λB=>by grind)];exact R5 h n
def yo(ts:List Nat)(ops:Array Oper):Bool:=ops.toList.all λo=>match o.dst with
 |none=>T
 |some d=>!PF ts d
theorem sf{a}{ops}(h:yo a ops=T):∀t∈a,∀o∈ops.toList,o.dst≠A t:=by intro t d o b c;have:=all_eq_true.1 h o b;rw[c]at this;simp[r9]at this;rw[LK.2 d]at this;cases this
theorem R6{E}{l:List Ent2}{f_}{t:Nat}(h:∀y∈l,y.o.dst≠A t):∀n,P0 E l f_ n t=E.get t
 |0=>rfl
 | n+1=>by
  rw[P0];cases e:l[n]? with
  |none=>exact R6 h n
  |some y =>
   simp;rw[a8 (λb=>h y (m7 e) b.2)];exact R6 h n
theorem EP.restr{P}{r4}{o}{E c}{H1}{l}{R}{PP}(h:EP P r4 o (restr E l) H1 R PP)(j:∀t,t∈l->c.get t=E.get t):EP P r4 o c H1 R PP:=by intro a w I ι i f g K Q e b;refine h a w I _ i f (λt v d=>?_) K Q e b;have b:=W7 _ (iS d);exact g t v ((j t b.2).trans b.1)
inductive DStepP(P:Program)(r4:Nat)(ops:List Oper)(PP:ef->aF->aF->Prop)(o:Oper)(E:dG)(H:aF)(r:Rec)(F:Prop):Prop
 |old (hF:F) (h:DStep P r4 ops o E H r)
 |pan (hg:o.guard=ζ) (h:∀H1:aF,(∀id,uF r.R id=T->H1.get id=H.get id)->EP P r4 o (restr E (jD ops o)) H1 (λv H'=>v=r.v/\H'=r.W++H1/\F) (λch H'=>PP ch H1 H'))
def dv:List Prop->Prop
 | []=>True
 |F::r=>F/\dv r
theorem dm:∀ {l},(∀(k:Nat) (F),l[k]?=A F->F)->dv l
 | [],_=>trivial
 |F::r,h=>⟨h 0 F Z,dm λk G a=>h (k+1) G a⟩
inductive DChainP(P:Program)(r4:Nat)(ops:List Oper)(PP:ef->aF->aF->Prop):List Oper->dG->aF->List Rec->List Prop->dG->aF->Prop
 |nil {E:dG} {H:aF}:DChainP P r4 ops PP [] E H [] [] E H
 | cons {o:Oper} {rest:List Oper} {E E':dG} {H H':aF} {r:Rec} {rs:List Rec} {F:Prop} {Fs:List Prop} (h:DStepP P r4 ops PP o E H r F) (hd:jI r4 o.dst=T) (hr:DChainP P r4 ops PP rest (nR E o.dst r.v) (r.W++H) rs Fs E' H') :
   DChainP P r4 ops PP (o::rest) E H (r::rs) (F::Fs) E' H'
section
variable{PP:ef->aF->aF->Prop}
theorem DChainP.spec{a:List Rec}{g:List Prop}(h:DChainP P r4 ops PP rest E H a g E' H'):(C a=C rest/\C g=C rest) /\
  (∀k x,(List.zipWith Ent2.mk rest a)[k]?=A x->jI r4 x.o.dst=T/\∃F,g[k]?=A F/\∃i c,(∀t,i.get t=P0 E (List.zipWith Ent2.mk rest a) (λ_=>T) k t)/\(∀id,c.get id=OK H (List.zipWith Ent2.mk rest a) (λ_=>T) k id)/\DStepP P r4 ops PP x.o i c x.r F) /\
  (∀t,E'.get t=P0 E (List.zipWith Ent2.mk rest a) (λ_=>T) (C rest) t)/\(∀id,H'.get id=OK H (List.zipWith Ent2.mk rest a) (λ_=>T) (C rest) id):=by
 induction h with
 |nil=>exact⟨⟨Z,Z⟩,H_,λt=>rfl,λid=>rfl⟩
 | @cons o rest E E' H H' r a F g u w hr b =>
  have ⟨⟨v,m⟩,z,I,J⟩:=b;have j:∀(l:List Ent2) k t,P0 (nR E o.dst r.v) l (λ_=>T) k t=P0 E (⟨o,r⟩::l) (λ_=>T) (k+1) t:=by
   intro l k t
   induction k with
   | zero =>
    simp only[P0,getElem?_cons_zero];cases D:o.dst with
    |none=>rfl
    |some d =>
     simp only[nR];by_cases e:d=t
     .subst e;simp[dG.get_cons_same]
     rw[dG.get_cons_other _ _ e];simp[e]
   |succ k b =>
    rw[P0,P0];simp only[getElem?_cons_succ];cases l[k]? with
    |none=>exact b
    |some x=>simp only[b]
  have p:∀(l:List Ent2) k id,OK (r.W++H) l (λ_=>T) k id=OK H (⟨o,r⟩::l) (λ_=>T) (k+1) id:=by
   intro l k id
   induction k with
   |zero =>
    simp only[OK,getElem?_cons_zero,QU];cases K:r.W.get id<;>simp
   |succ k b =>
    rw[OK,OK];simp only[getElem?_cons_succ];cases l[k]? with
    |none=>exact b
    |some x=>simp only[b]
  refine⟨⟨by simp[v],by simp[m]⟩,?_,?_,?_⟩
  .intro k x f;cases k with
   |zero =>
    simp at f;subst f;exact⟨w,F,Z,E,H,λt=>rfl,λid=>rfl,u⟩
   |succ k =>
    simp at f;have ⟨B,q,n,i,c,G,s,y⟩:=z k x (by simpa using f);exact⟨B,q,n,i,c,λt=>(G t).trans (j _ k t),λid=>(s id).trans (p _ k id),y⟩
  all_goals simp_all
end
theorem Y7{PP:ef->aF->aF->Prop}{ops:Array Oper}{rs:List Rec}(hm:P.follows .mixedOrders=true){Fs:List Prop}(hc:DChainP P r4 ops.toList PP ops.toList E H rs Fs E' H')(hok:TB ops.toList rs=true)(ids ks:List Nat)(hW:Ur ids H rs=true)(hKs:yn ks rs=true)(ts:List Nat)(hT:yo ts ops=true)(hP:∀ch A_ H1 H2,(∀t∈ts,A_.get t=E.get t)->Shp ids H H1->(∀id∈ks,H1.get id=H.get id)->PP ch H1 H2->Q (.panic ch) A_ H2)
  (hK:dv Fs->Q .normal E' H'):fW P G0 r4 (.region id ops true) Q E H:=by
 intro G hG a w hs ro hro;have hnd0:ro=none\/ops.toList.all Oper.noDefer=true:=hro;refine wpIn_region_any hm ?_;obtain ⟨⟨hlen,hlenF⟩,hst,hE',hH'⟩:=hc.spec;obtain ⟨l,hl⟩:∃l,l=List.zipWith Ent2.mk ops.toList rs:=X_;rw[<-hl]at hst hE' hH';simp only[TB,l6,<-hl]at hok;obtain ⟨hok1,hok2⟩:=hok;have hll:l.length=ops.size:=by simp_all
 have hlo:∀(i:Nat) (x:Ent2),l[i]?=some x->ops.toList[i]?=some x.o:=by
  grind
 have hedge:=bf ops.toList 0 hok1;have hbef:∀(i j:Nat) (x y:Ent2),i<j->l[i]?=some x->l[j]?=some y->qW ops.toList x y=true->Pre ops.toList i j:=λi j x y hij hx y_ hcl =>
  Fk ops.toList [] [] Z Z (by simp) j i (bb l [] hok2 i j hij (l7 _) x y hx y_ hcl)
 have main:∀(L:Nat) (f:Array Bool) (a:Act) (w:World) (A_:dG) (H1:aF),f.size=ops.size->((List.range ops.size).filter λi=>!f.getD i true).length<=L ->
   Zw ops.toList (λi=>f.getD i false)->(∀k,f.getD k false=true->∀F,Fs[k]?=some F->F)->St G r4 A_ H1 a w->(∀t,A_.get t=P0 E l (λi=>f.getD i false) ops.size t)->(∀j,H1.get j=OK H l (λi=>f.getD i false) ops.size j) ->
   wpAnyIn (RF ro) 0 P .any ops (λe a w=>∃E H,Q e E H/\St G r4 E H a w) L f a w:=by
  intro L
  induction L with
  | zero =>
   intro f a w A_ H1 hsz hcnt e_ hfac p hE1 hH1;have c_:∀i,i<ops.size->f.getD i false=true:=by
    intro i hi;have hnil:=List.eq_nil_of_length_eq_zero (Nat.le_zero.1 hcnt);have:=List.filter_eq_nil_iff.1 hnil i (List.mem_range.2 hi);have R:i<f.size:=by omega
    simp[Array.getD,R]at this |-;exact this
   refine⟨?_,E',H',hK (dm λk F hF=>hfac k (c_ k (by have:=(m9.1 hF).1;rw[hlenF]at this;simpa using this)) F hF),?_⟩
   ·unfold Region.ready;refine List.filter_eq_nil_iff.2 λi hi=>?_;have:=c_ i (List.mem_range.1 hi);have R:i<f.size:=by have:=List.mem_range.1 hi;omega
    simp[Array.getD,R]at this;simp[Array.getD,R,this]
   refine cH.get (G0:=G0) (λt=>?_) (λj=>?_) G hG r4 a w p
   ·rw[hE' t,hE1 t,Array.length_toList];exact(GG (E:=E) ops.size ops.size (h_ _) (λj x q _=>⟨λz=>c_ j z,λh1 h2=>by omega⟩)).symm
   rw[hH' j,hH1 j,Array.length_toList];exact(GF (H:=H) ops.size ops.size (h_ _) (λi x hi _=>⟨λz=>c_ i z,λh1 h2=>by omega⟩)).symm
  | succ L ih =>
   intro f a w A_ H1 hsz hcnt e_ hfac p hE1 hH1;refine⟨λhnil=>?_,λi hi=>?_⟩
   ·-- nothing is left
    have c_:∀i,i<ops.size->f.getD i false=true:=by
     intro i
     induction i using Nat.strongRecOn with
     | _ i ihi =>
      intro hi;refine Classical.byContradiction λhno=>?_;have R:i<f.size:=by omega
      have hno':f.getD i true=false:=by
       simp[Array.getD,R]at hno |-;exact hno
      have z:i<ops.toList.length:=by simpa using hi
      have hr:i∈Region.ready .any ops f:=by
       unfold Region.ready;refine List.mem_filter.2 ⟨List.mem_range.2 hi,?_⟩;have ho:ops[i]?=some ops[i]:=Array.getElem?_eq_getElem hi;simp only[hno',Bool.not_false,Bool.true_and,ho,Option.map_some,Option.getD_some];rw[Array.all_eq_true'];intro e he;cases hb:Region.binds .any e with
       |false=>simp
       |true =>
        have hon:=hedge i ops[i] (by simp[ho]) e (by simpa using he) hb;simp only[Bool.not_true,Bool.false_or];exact ihi e.on (by omega) (by omega)
      rw[hnil]at hr;cases hr
    refine⟨E',H',hK (dm λk F hF=>hfac k (c_ k (by have:=(m9.1 hF).1;rw[hlenF]at this;simpa using this)) F hF),?_⟩;refine cH.get (G0:=G0) (λt=>?_) (λj=>?_) G hG r4 a w p
    ·rw[hE' t,hE1 t,Array.length_toList];exact(GG (E:=E) ops.size ops.size (h_ _) (λj x q _=>⟨λz=>c_ j z,λh1 h2=>by omega⟩)).symm
    rw[hH' j,hH1 j,Array.length_toList];exact(GF (H:=H) ops.size ops.size (h_ _) (λi x hi _=>⟨λz=>c_ i z,λh1 h2=>by omega⟩)).symm
   have hi1:=List.mem_filter.1 hi;have hilt:i<ops.size:=List.mem_range.1 hi1.1;have R:i<f.size:=by omega
   have ho:ops[i]?=some ops[i]:=Array.getElem?_eq_getElem hilt;have hi2:=hi1.2;simp only[ho,Option.map_some,Option.getD_some,l6]at hi2;obtain ⟨hnl,hpreds⟩:=hi2;have hnl':f.getD i false=false:=by
    simp[Array.getD,R]at hnl |-;exact hnl
   have hpre:∀e∈(ops[i]).after.toList,Region.binds .any e=true->f.getD e.on false=true:=by
    intro e he hb;have:=(Array.all_eq_true'.1 hpreds) e (by simpa using he)
    simpa[hb]using this
   have hil:i<l.length:=by omega
   obtain ⟨x,hx⟩:∃x,l[i]?=some x:=⟨_,n_ hil⟩;have hxo:x.o=ops[i]:=by
    have:=hlo i x hx;simp[ho]at this;exact this.symm
   obtain ⟨W,F,hFi,Ek,Hk,hEk,hHk,hdst⟩:=hst i x hx;have i_:∀(j:Nat) (y:Ent2),j<i->l[j]?=some y->qW ops.toList y x=true->f.getD j false=true:=by
    intro j y q y_ hcl;exact hbef j i y x q y_ hx hcl _ e_ ops[i] (by simp[ho]) hpre
   have d_:∀(j:Nat) (y:Ent2),i<j->l[j]?=some y->qW ops.toList x y=true->f.getD j false=false:=by
    intro j y q y_ hcl;cases hjl:f.getD j false with
    |false=>rfl
    |true =>
     have hjlt:j<l.length:=(m9.1 y_).1;have hjo:ops.toList[j]?=some y.o:=hlo j y y_;have:=hbef i j x y q hx y_ hcl _ e_ y.o hjo (λe he hb=>e_ j y.o hjo hjl e he hb);rw[hnl']at this;cases this
   have agreeE:∀t,(∀(j:Nat) (y:Ent2),l[j]?=some y->y.o.dst=some t->(j<i->qW ops.toList y x=true)/\(i<j->qW ops.toList x y=true))->A_.get t=Ek.get t:=by
    intro t ht;rw[hE1 t,hEk t];refine GG (E:=E) ops.size i (by omega) (λj y q K=>⟨λz=>i_ j y z q ((ht j y q K).1 z),λh1 h2=>?_⟩);by_cases e:j=i
    ·subst e;exact hnl'
    exact d_ j y (by omega) q ((ht j y q K).2 (by omega))
   have agreeH:∀k,(∀(j:Nat) (y:Ent2),l[j]?=some y->(y.r.W.get k).isSome=true->(j<i->qW ops.toList y x=true)/\(i<j->qW ops.toList x y=true))->H1.get k=Hk.get k:=by
    intro k u_;rw[hH1 k,hHk k];refine GF (H:=H) ops.size i (by omega) (λj y q K=>⟨λz=>i_ j y z q ((u_ j y q K).1 z),λh1 h2=>?_⟩);by_cases e:j=i
    ·subst e;exact hnl'
    exact d_ j y (by omega) q ((u_ j y q K).2 (by omega))
   have u:∀t,t∈jD ops.toList x.o->A_.get t=Ek.get t:=λt ht =>
    agreeE t λj y q K=>⟨λ_=>PK K ht,λ_=>PJ K ht⟩
   have u4:∀k,uF x.r.R k=true->H1.get k=Hk.get k:=λk u_ =>
    agreeH k λj y q K=>⟨λ_=>Ez K u_,λ_=>Fb K u_⟩
   have s:∀j,(f.setIfInBounds i true).getD j false=if j=i then true else f.getD j false:=by
    intro j;by_cases e:j=i
    ·subst e;simp[Array.getD,R]
    simp only[Array.getD_eq_getD_getElem?,Array.getElem?_setIfInBounds_ne (Ne.symm e),e,if_false]
   have hdown':Zw ops.toList (λj=>(f.setIfInBounds i true).getD j false):=by
    intro j o q hjl e he hb;simp only[s]at hjl |-;by_cases ej:j=i
    ·subst ej;have:o=ops[j]:=by simp[ho]at q;exact q.symm
     subst this;have:=hpre e he hb;simp[this]
    simp only[ej,if_false]at hjl;have:=e_ j o q hjl e he hb;simp only at this;simp[this]
   have hcnt':((List.range ops.size).filter λj=>!(f.setIfInBounds i true).getD j true).length<=L:=by
    have hlist':∀j,(f.setIfInBounds i true).getD j true=if j=i then true else f.getD j true:=by
     intro j;by_cases e:j=i
     ·subst e;simp[Array.getD,R]
     simp only[Array.getD_eq_getD_getElem?,Array.getElem?_setIfInBounds_ne (Ne.symm e),e,if_false]
    have h1:((List.range ops.size).filter λj=>!(f.setIfInBounds i true).getD j true)=((List.range ops.size).filter λj=>!f.getD j true).filter λj=>j != i:=by
     rw[List.filter_filter];refine List.filter_congr λj _=>?_;rw[hlist'];by_cases e:j=i<;>simp[e]
    rw[h1];have h2:=List.length_filter_lt_length_iff_exists (p:=λj=>j != i) (l:=(List.range ops.size).filter λj=>!f.getD j true) |>.2 ⟨i,List.mem_filter.2 ⟨hi1.1,by simpa using hnl⟩,by simp⟩;omega
   have o_:∀(r:AV) (a':Act) (w':World),F->r=x.r.v->St G r4 (nR A_ x.o.dst x.r.v) (x.r.W++H1) a' w'->wpAnyIn (RF ro) 0 P .any ops (λe a w=>∃E H,Q e E H/\St G r4 E H a w) L (f.setIfInBounds i true) a' w':=by
    intro r a' w' hFx _ hst';refine ih _ a' w' _ _ (by simp[hsz]) hcnt' hdown' (λk u_ F' hF'=>?_) hst' (λt=>?_) (λk=>?_)
    ·rw[s]at u_;by_cases e:k=i
     ·subst e;rw[hFi]at hF';cases hF';exact hFx
     rw[a8 e]at u_;exact hfac k u_ F' hF'
    ·-- slots
     by_cases K:x.o.dst=some t
     ·have e1:dG.get (nR A_ x.o.dst x.r.v) t=some x.r.v:=by rw[K];simp[nR,dG.get_cons_same]
      rw[e1];have e2:=GG (E:=E) (l:=l) (f_:=λj=>(f.setIfInBounds i true).getD j false) (t:=t) ops.size (i+1) (by omega) (λj y q hyd=>⟨λz=>?_,λh1 h2=>?_⟩)
      ·rw[e2,P0,hx];simp[K]
      ·simp only[s];by_cases ej:j=i
       ·simp[ej]
       simp only[ej,if_false];exact i_ j y (by omega) q (ID hyd K)
      simp only[s];rw[a8 (by omega)];exact d_ j y (by omega) q (ID K hyd)
     have e1:dG.get (nR A_ x.o.dst x.r.v) t=A_.get t:=by
      cases hdd:x.o.dst with
      |none=>rfl
      |some d=>exact dG.get_cons_other _ _ (λe=>K (by rw[hdd,e]))
     rw [e1,hE1 t];have:∀ n,P0 E l (λi=>f.getD i false) n t=P0 E l (λj=>(f.setIfInBounds i true).getD j false) n t:=by
      intro n
      induction n with
      |zero=>rfl
      | succ n D =>
       rw[P0,P0];cases hn:l[n]? with
       |none=>exact D
       |some y =>
        simp only;by_cases en:n=i
        ·subst en;rw[hx]at hn;cases hn;rw[a8 (λh=>K h.2),a8 (λh=>K h.2)];exact D
        have hS:(f.setIfInBounds i true).getD n false=f.getD n false:=by rw[s,a8 en]
        rw[hS,D]
     exact this _
    rw[QU];by_cases K:(x.r.W.get k).isSome=true
    ·obtain ⟨ob,hob⟩:=Option.isSome_iff_exists.1 K;rw[hob];have e2:=GF (H:=H) (l:=l) (f_:=λj=>(f.setIfInBounds i true).getD j false) (id:=k) ops.size (i+1) (by omega) (λj y q hyd=>⟨λz=>?_,λh1 h2=>?_⟩)
     ·rw[e2,OK,hx];simp[hob]
     ·simp only[s];by_cases ej:j=i
      ·simp[ej]
      simp only[ej,if_false];exact i_ j y (by omega) q (Y4 hyd K)
     simp only[s];rw[a8 (by omega)];exact d_ j y (by omega) q (Y4 K hyd)
    have hnone:x.r.W.get k=none:=by simpa using K
    rw [hnone];simp only;rw [hH1 k];have:∀ n,OK H l (λi=>f.getD i false) n k=OK H l (λj=>(f.setIfInBounds i true).getD j false) n k:=by
     intro n
     induction n with
     |zero=>rfl
     | succ n D =>
      rw[OK,OK];cases hn:l[n]? with
      |none=>exact D
      |some y =>
       simp only;by_cases en:n=i
       ·subst en;rw[hx]at hn;cases hn;rw[a8 (λh=>K h.2),a8 (λh=>K h.2)];exact D
       have hS:(f.setIfInBounds i true).getD n false=f.getD n false:=by rw[s,a8 en]
       rw[hS,D]
    exact this _
   unfold wpOpIn;simp only[ho];rw[hxo]at hdst u W;rw[hxo]at o_;have hgE:∀(j:Nat) (v_:Bool) (t:Tmp) (b:Bool),(ops[i]).guard=some (j,v_)->jZ ops.toList j=some t->Ek.get t=some (.pv (.bool b))->yielded ops a.tmps j=some b:=by
    intro j v_ t b hg q hb;have hmem:t∈jD ops.toList ops[i]:=by simp[jD,hg,q]
    exact DN (E:=A_) q ((u t hmem).trans hb) p.rel.choose_spec.choose_spec.2.2
   have hnd:ro=none\/(ops[i]).noDefer=true:=hnd0.imp (λh=>h) λh=>List.all_eq_true.1 h _ (by simp);cases hdst with
   | pan hg h =>
    have hlr:∀y∈l,y.r∈rs:=λy y_=>by
     obtain ⟨k,u_⟩:=s8.1 y_;rw[hl,List.getElem?_zipWith]at u_;cases e1:ops.toList[k]? with
     |none=>simp[e1]at u_
     |some o=>cases e2:rs[k]? with
      |none=>simp[e1,e2]at u_
      |some r=>simp[e1,e2]at u_;rw[<-u_];exact m7 e2
    have hw:Region.wanted ops[i] (yielded ops a.tmps)=true:=by simp[Region.wanted,hg]
    simp only[hw,if_true];refine p.opP W ((h H1 u4).restr u) ?_ ?_ hnd
    ·rintro r H2 a' w' ⟨rfl,rfl,hF⟩ f_;exact o_ _ a' w' hF Z f_
    intro ch H2 w' hp f_;refine⟨A_,H2,hP ch A_ H1 H2 (λt ht=>(hE1 t).trans (R6 (λy y_=>sf hT t ht y.o (by
     obtain ⟨k,u_⟩:=s8.1 y_;exact m7 (hlo k y u_))) _)) (λid hid o ho=>?_) (λid hid=>(hH1 id).trans (R5 (λy y_=>se hKs id hid y.r (hlr y y_)) _)) hp,f_⟩
    have hsh:=ZQ (H:=H) (l:=l) (f_:=λi=>f.getD i false) (id:=id) ho (λy y_ o' ho'=>?_) ops.size
    ·obtain ⟨o',h1,h2⟩:=hsh;exact⟨o',(hH1 id).trans h1,h2⟩
    exact Ca hW y.r (hlr y y_) id hid o' ho' o ho
   | old hF hdst =>
    have o_:=λr a' w'=>o_ r a' w' hF;cases hdst with
    |plain hg h =>
     have hw:Region.wanted ops[i] (yielded ops a.tmps)=true:=by simp[Region.wanted,hg]
     simp only[hw,if_true];refine p.op W ((h H1 u4).restr u) ?_ hnd;rintro r H2 a' w' ⟨rfl,rfl⟩ f_;exact o_ _ a' w' Z f_
    |on j v_ t b hg q hb hw h =>
     have y_:=hgE j v_ t b hg q hb;have hw:Region.wanted ops[i] (yielded ops a.tmps)=true:=by simp[Region.wanted,hg,y_,hw]
     simp only[hw,if_true];refine p.op W ((h H1 u4).restr u) ?_ hnd;rintro r H2 a' w' ⟨rfl,rfl⟩ f_;exact o_ _ a' w' Z f_
    | off j v_ t x' hg q hb hw hv hW =>
     have hmem:t∈jD ops.toList ops[i]:=by simp[jD,hg,q]
     have hw:Region.wanted ops[i] (yielded ops a.tmps)=false :=
      YG (E:=A_) hg q ((u t hmem).trans hb) hw p.rel.choose_spec.choose_spec.2.2
     simp only[hw,Bool.false_eq_true,if_false];refine⟨λ_ _=>trivial,?_⟩;refine o_ (.tup []) _ w hv.symm ?_;obtain ⟨I,ι,hr,hst2,he⟩:=p.rel;rw[hv,hW];refine⟨?_,?_,I,ι,hr,hst2,lS.put hr (Step.refl _ _ _ _) he lS.skip (by rw[p.size];exact W)⟩
     ·rw[mN];exact p.defers
     have:=p.size;cases (ops[i]).dst<;>simpa[Act.put]using this
 have f_:St G r4 E H a {w with drawn:=w.drawn+1}:=by
  obtain ⟨I,ι,hr,hst2,he⟩:=hs.rel;obtain ⟨k2,k3⟩:=hr.drawn (w':={w with drawn:=w.drawn+1}) Z Z Z Z;exact⟨hs.defers,hs.size,I,ι,k2,hst2.trans k3,λt v ht=>let ⟨c,h1,h2⟩:=he t v ht;⟨c,h1,h2.mono hr k3⟩⟩
 refine main ops.size (Array.replicate ops.size false) a _ E H (by simp) (by
  have:=List.length_filter_le (λi=>!(Array.replicate ops.size false).getD i true) (List.range ops.size)
  simpa using this) (λj o q hjl=>by simp[Array.getD]at hjl) (λk u_=>by simp[Array.getD]at u_) f_ (λt=>?_) (λk=>?_)
 ·have:∀n,P0 E l (λi=>(Array.replicate ops.size false).getD i false) n t=E.get t:=by
   intro n
   induction n with
   |zero=>rfl
   | succ n D =>
    rw[P0];cases l[n]? with
    |none=>exact D
    |some y =>
     have hf:(Array.replicate ops.size false).getD n false=false:=by simp[Array.getD]
     simp only[hf,Bool.false_eq_true,false_and,if_false];exact D
  exact(this _).symm
 have:∀n,OK H l (λi=>(Array.replicate ops.size false).getD i false) n k=H.get k:=by
  intro n
  induction n with
  |zero=>rfl
  | succ n D =>
   rw[OK];cases l[n]? with
   |none=>exact D
   |some y =>
    have hf:(Array.replicate ops.size false).getD n false=false:=by simp[Array.getD]
    simp only[hf,Bool.false_eq_true,false_and,if_false];exact D
 exact(this _).symm
theorem DChain.toP{rs:List Rec}(h:DChain P r4 ops rest E H rs E' H'):DChainP P r4 ops (λ_ _ _=>False) rest E H rs (rs.map λ_=>True) E' H':=by
 induction h with
 |nil=>exact .nil
 |cons D B G F=>exact .cons (.old T_ D) B F
theorem Ra{ops:Array Oper}{rs:List Rec}(G:P.follows .mixedOrders=T)(F:DChain P r4 ops.toList ops.toList E H rs E' H')(B:TB ops.toList rs=T)
  (D:Q .normal E' H'):fW P G0 r4 (.region id ops T) Q E H :=
 Y7 (PP:=λ_ _ _=>False) G F.toP B [] [] (by simp[Ur]) (by simp[yn]) [] (by rw[yo,all_eq_true];intro o _;cases o.dst<;>rfl) (λ_ _ _ _ _ _ _ h=>h.elim) λ_=>D
end
section
def eU(P:Program)(u4:TypeId)(cells:List AV):Prop:=∃z v,(∀w,(zeroValue u4).run P w=.ok z w)/\ZV z v/\RD v=A cells
def kC(P:Program)(u4:TypeId)(places:List (Nat×Nat))(l0:List AV):Prop :=∃fs pl z v,P.underlying u4=A (.struct fs)/\(∀w,(zeroValue u4).run P w=.ok z w)/\ZV z v/\RD v=A l0/\(∀w,((fs.mapM λf=>do pure (f.offset,<-sizeOf f.type)):Sem (Array (Nat×Nat))).run P w=.ok pl w)/\pl.toList=places
def RE(P:Program)(u4:TypeId)(sz:Nat)(l0:List AV):Prop :=∃n e z v,P.underlying u4=A (.array n e)/\(∀w,(zeroValue u4).run P w=.ok z w)/\ZV z v/\RD v=A l0/\∀w,(sizeOf e).run P w=.ok sz w
def fN(P:Program)(u4 e sz:TypeId):Prop:=P.underlying u4=A (.slice e)/\(∀w,(sizeOf e).run P w=.ok sz w)/\0<sz/\∃z,∀w,(zeroValue e).run P w=.ok z w
def EI(P:Program)(e:TypeId)(sz bytes:Nat):Prop:=mu P e sz bytes/\0<bytes
theorem EI.mk{P}{e}{sz bytes}{z}(h:(P.info? e).map (λi=>(i.zero,i.size,i.bytes))=some (some z,sz,bytes))(d:z.cells.size=sz)(c:0<sz)(b:0<bytes):EI P e sz bytes:=by
 refine⟨?_,b⟩;cases a:P.info? e with
 |none=>rw[a]at h;cases h
 |some i =>
  rw[a]at h;simp[Option.map_some,Option.some.injEq,Prod.mk.injEq]at h;have ⟨g,f,j⟩:=h;exact⟨i,z,a,g,f,j,d,c⟩
theorem cP.congr{P}{r4}{o}{E}{H H2 B}{v}(h:cP P r4 o E H v H2)(l:∀j,B.get j=H2.get j):cP P r4 o E H v B:=by intro a w I ι n m k f K Q i;refine h a w I _ n m k f K Q ?_;rintro c w' F D r H' ⟨rfl,rfl⟩ g b d;have ⟨p,e⟩:=b.congr l;exact i c _ _ _ _ _ ⟨Z,Z⟩ (g.mono b e) p (d.trans e)
theorem yF(H:aF)(id)(o):∀j,aF.get ((id,o)::H) j=(H.set id o).get j:=by
 intro j;by_cases e:j=id
 .subst e;rw[aF.get_set_same,get_cons_same]
 rw[aF.get_set_other _ _ e,get_cons_other _ _ e]
section
variable{o:Oper}{x y:Operand}
theorem CN{cells}{id n}(b:o.op=.alloc u4)(g:eU P u4 cells)(d:C cells=n+1)(a:H.get id=ζ):cP P r4 o E H (.ref id 0 0 0) ((id,⟨0,n+1,u4,[cells]⟩)::H) :=let ⟨_,_,f,e,c⟩:=g;Dj b f e c d a
theorem PS{a}{places}{l0 l}{aps}(f:o.op=.build u4 a)(c:kC P u4 places l0)(b:qQ E a.toList=A aps)(D:D6 (λi=>places[i]?) l0 aps=A l):
  cP P r4 o E H (.agg l) H:=by
 have ⟨fs,pl,z,v,e,h,g,d,j,B⟩:=c;refine ND f e h g d j b ?_
 grind
theorem zP{a}{sz}{l0 l}{aps}(f:o.op=.build u4 a)(c:RE P u4 sz l0)(b:qQ E a.toList=A aps)(h:D6 (λi=>A (i*sz,sz)) l0 aps=A l):
  cP P r4 o E H (.agg l) H :=
 let ⟨_,_,_,_,e,j,g,d,k⟩:=c;V2 f e j g d k b h
theorem aL{e:Nat}{a}{aps}{rows}(ps)(h:o.op=.buildSlice u4 n a)(B:fN P u4 e sz)(m:Nat.ble (n*sz) 16777216=T)(f:qQ E a.toList=A aps)(j:O4 0 aps=A rows)
  (c:ps.map (·.map AV.pv)=rows) (b:C ps=n) (d:∀r∈ps,C r=sz):cP P r4 o E H (.pv (.sl ps)) H :=
 let ⟨g,k,i,_,l⟩:=B;S9 h g k l (r_ m) i f j c b d
theorem eO{e:Nat}{a}{aps}{rows}(i:o.op=.buildSlice u4 n a)(B:fN P u4 e sz)(g:Nat.ble (n*sz) 16777216=T)(f:qQ E a.toList=A aps)(k:O4 0 aps=A rows)
  (b:C rows=n) (c:∀r∈rows,C r=sz) (d:H.get id=ζ):cP P r4 o E H (.osl id 0 0 n) ((id,⟨0,sz,e,rows⟩)::H) :=
 let ⟨h,l,j,_,m⟩:=B;IX i h l m (r_ g) j f k b c d
theorem mE{v}{cells r}{id g n}{ob}(d:o.op=.store u4 x y)(h:∀w,(sizeOf u4).run P w=.ok n w)(e:aQ E x=A (.ref id g 0 0))(f:aQ E y=A v)(i:RD v=A cells)
  (c:C cells=n) (b:H.get id=A ob) (a:ob.g=g) (hi:ob.rows=[r]) (B:C r=n):cP P r4 o E H .any ((id,⟨g,ob.sz,ob.ty,[cells]⟩)::H):=by
 subst a;refine cP.congr (NC (r':=cells) d e f i h c b Z (by rw[hi];rfl) X ?_ Z) (λj=>?_)
 .simp_all
 rw[yF]
 grind
theorem cM{v}{r r'}{id g i k}{ob}{rows'}(e:o.op=.store u4 x y)(l:∀w,(sizeOf u4).run P w=.ok 1 w)(f:aQ E x=A (.ref id g i k))(h:aQ E y=A v)(m:RD v=A [v])
  (n:H.get id=A ob) (c:ob.g=g) (hi:ob.rows[i]?=A r) (d:k<C r) (b:r.set k v=r') (a:ob.rows.set i r'=rows'):cP P r4 o E H .any ((id,⟨g,ob.sz,ob.ty,rows'⟩)::H):=by
 subst c a;refine cP.congr (NC e f h m l Z n Z hi X ?_ Z) (λj=>yF _ _ _ j);rw[<-b,set_eq_take_append_cons_drop,b6 d];rfl
theorem qZ{v}{cells r r'}{id g i k n}{ob}{rows'}(f:o.op=.store u4 x y)(m:∀w,(sizeOf u4).run P w=.ok n w)(l:aQ E x=A (.ref id g i k))(h:aQ E y=A v)(p:RD v=A cells)
  (q:C cells=n) (d:H.get id=A ob) (c:ob.g=g) (hi:ob.rows[i]?=A r) (e:k+n<=C r) (b:r.take k++(cells++r.drop (k+n))=r') (a:ob.rows.set i r'=rows'):cP P r4 o E H .any ((id,⟨g,ob.sz,ob.ty,rows'⟩)::H):=by
 subst c a;exact cP.congr (NC f l h p m q d Z hi e b Z) (λj=>yF _ _ _ j)
theorem fp{n m bytes}(a:0<bytes)(h:(n+m)*bytes<=140737488355328):n+m<=9223372036854775807:=by have:n+m<=(n+m)*bytes:=Nat.le_mul_of_pos_right _ a;omega
theorem bW{e}{ob}{ps}{rows'}(u:o.op=.call {callee:=.builtin .append,args:=#[x,y],argTypes:=#[u4,u4]})(B:fN P u4 e sz)(b:EI P e sz bytes)
  (q:aQ E x=A (.osl id g 0 n)) (i:H.get id=A ob) (t:ob.g=g) (d:ob.sz=sz) (h:ob.ty=e) (l:C ob.rows=n)
  (p:aQ E y=A (.pv (.sl ps))) (f:∀r∈ps,C r=sz) (v:C ps=m) (a:(n+m)*bytes<=140737488355328) (s:n+m=k) (c:ob.rows++ps.map (·.map AV.pv)=rows') :
  cP P r4 o E H (.osl id (g+1) 0 k) ((id,⟨g+1,sz,e,rows'⟩)::H):=by
 subst s c;exact cP.congr (V3 u B.1 b.1 q i t d h l p f v a (fp b.2 a) Z) (λj=>yF _ _ _ j)
theorem ET{e}{c:Nat}{s k2}{f g}{b}(F:o.op=.makeSlice u4 x y)(D:fN P u4 e sz)(a:EI P e sz bytes)(i:eU P e b)(d:C b=sz)
  (m:aQ E x=A (.pv (.int s f))) (k:aQ E y=A (.pv (.int k2 g))) (r:0<=f) (t:f<=g) (n:f.toNat=l) (q:g.toNat=c) (w:bytes*c<=281474976710656) (h:H.get id=ζ) :
  cP P r4 o E H (.osl id 0 0 l) ((id,⟨0,sz,e,List.replicate l b⟩)::H):=by
 have ⟨z,v,j,u,p⟩:=i;have B:c<=bytes*c:=Nat.le_mul_of_pos_left _ a.2;exact VU F D.1 a.1 j u p d m k r t n q w X h
theorem bP{e}{rows}{r}{h}{n}(c:o.op=.indexAddr u4 x y)(B:fN P u4 e sz)
  (d:aQ E x=A (.pv (.sl rows))) (f:aQ E y=A (.pv (.int h n))) (g:0<=n) (a:n.toNat=m) (hi:rows[m]?=A r) (b:C r=sz):cP P r4 o E H (.pad rows m 0) H :=
 VV c B.1 B.2.1 d f g a hi b
theorem dL{e}{c}{n}{ob}(f:o.op=.indexAddr u4 x y)(B:fN P u4 e sz)
  (i:aQ E x=A (.osl id g off len)) (d:H.get id=A ob) (k:ob.g=g) (a:ob.sz=sz) (h:aQ E y=A (.pv (.int c n))) (j:0<=n) (l:n.toNat=m) (hi:m<len) (b:off+m=m2):cP P r4 o E H (.ref id g m2 0) H :=
 VW f B.1 B.2.1 i d k a h j l hi b
theorem eM{e}{d hi}{rows rows'}(k:o.op=.slice u4 x d hi ζ)(B:fN P u4 e sz)(g:aQ E x=A (.pv (.sl rows)))
  (a:∀r∈rows,C r=sz) (c:bnd E d 0=A (l:Int)) (b:bnd E hi (C rows)=A (h:Int)) (j:l<=h) (f:h<=C rows) (i:(rows.take h).drop l=rows'):cP P r4 o E H (.pv (.sl rows')) H :=
 ay k B.1 B.2.1 g a c b j f i
theorem kY{e}{k hi}{a:Nat}{ob}(m:o.op=.slice u4 x k hi ζ)(B:fN P u4 e sz)(n:aQ E x=A (.osl id g off len))
  (s:H.get id=A ob) (q:ob.g=g) (f:ob.sz=sz) (j:bnd E k 0=A (l:Int)) (d:bnd E hi len=A (h:Int)) (p:l<=h) (r:h<=len) (c:off+l=a) (i:h - l=b):cP P r4 o E H (.osl id g a b) H :=
 HV m B.1 B.2.1 n s q f j d p r c i
end
section
variable{ops:Array Oper}{K:dG->aF->Prop}{o:Oper}
theorem Rp{j}{a b}{t d}{v}{H2}(l:o.guard=A (j,a))(e:jZ ops.toList j=A t)(c:E.get t=A (.pv (.bool b)))(m:b=a)(B:o.dst=A d)(g:Nat.blt d r4=T)(h:cP P r4 o E H v H2)
  (i:AL P G0 r4 ops K rest ((d,v)::E) H2):AL P G0 r4 ops K (o::rest) E H :=
 aEw l e c m (by rw[B];exact g) h λr H' ⟨f,k⟩=>by subst f k;rw[B];exact i
theorem Df{c x y}{b}{v}(a:o.op=.pick c x y)(d:aQ E c=A (.pv (.bool b)))(B:b=T)(D:aQ E x=A v):cP P r4 o E H v H:=FC a d F_
theorem Dg{c x y}{b}{v}(a:o.op=.pick c x y)(d:aQ E c=A (.pv (.bool b)))(B:b=η)(D:aQ E y=A v):cP P r4 o E H v H:=FC a d F_
end
section
variable{ops:Array Oper}{K:dG->aF->Prop}
theorem cH.sub{E'}(h:∀k v,E'.get k=some v->E.get k=some v):cH G0 E H E' H:=by intro G B r4 a w c;obtain ⟨I,g,e,b,d⟩:=c.rel;exact⟨c.defers,c.size,I,g,e,b,λt v f=>d t v (h t v f)⟩
theorem Ro{l}{t:Tmp}{b}(B:E.get t=A (.pv (.bool b)))(i:b=T->AL P G0 r4 ops K l ((t,.pv (.bool T))::E) H)(m:b=η->AL P G0 r4 ops K l ((t,.pv (.bool η))::E) H):AL P G0 r4 ops K l E H:=by
 have d:∀c,b=c->AL P G0 r4 ops K l ((t,.pv (.bool c))::E) H->AL P G0 r4 ops K l E H:=by
  rintro c rfl h G g a w j;refine h G g a w (cH.sub (λk v f=>?_) G g r4 a w j);by_cases e:t=k
  .subst e;rw[dG.get_cons_same]at f
   grind
  rwa [dG.get_cons_other _ _ e]at f
 cases b
 .exact d _ Z (m Z)
 exact d _ Z (i Z)
def aEe(t:Nat)(D E:dG):Bool:=D.all λp=>Nat.beq p.1 t||E.all λq=>!(Nat.beq p.1 q.1)
def mr(n t:Nat)(A_:Bool)(E:dG)(H:aF)(B:dG)(H1:aF):Prop:=(∃b,B.get t=A (.pv (.bool b))/\b=A_)/\H1=H/\B.drop n=E/\aEe t (B.take n) E=T
theorem Gj{n t A_}{E:dG}{H:aF}{B H1 b}(D:B.get t=A (.pv (.bool b)):=by rfl)(F:H1=H:=by rfl)(G:B.drop n=E:=by rfl)(I:aEe t (B.take n) E=T:=by rfl)(h:b=A_):mr n t A_ E H B H1:=⟨⟨b,D,h⟩,F,G,I⟩
theorem Yq(D E)(k):dG.get (D++E) k=match D.get k with|some v=>A v|none=>E.get k:=by
 induction D with
 |nil=>rfl
 |cons x r a =>
  have ⟨i,v⟩:=x;cases e:Nat.beq i k with
  |true=>simp[dG.get,e]
  |false=>simpa[dG.get,e]using a
theorem mr.ent{n t}{A_}{d}{H1}(h:mr n t A_ E H d H1):cH G0 d H1 ((t,.pv (.bool A_))::E) H:=by
 obtain ⟨⟨b,B,rfl⟩,rfl,i,j⟩:=h;refine cH.sub λk v c=>?_;by_cases e:t=k
 .subst e;rw[dG.get_cons_same]at c
  grind
 rw[dG.get_cons_other _ _ e]at c;have a:d.take n++E=d:=by rw[<-i];exact take_append_drop n _
 rw[<-a,Yq];cases m:dG.get _ k with
 |none=>exact c
 |some u =>
  have l:=iS m;have g:=iS c;have f:=all_eq_true.1 j _ l;simp only[kE (Ne.symm e),Bool.false_or]at f;have:=all_eq_true.1 f _ g;simp[pW]at this
theorem pX{id n t}{d}{A_}{Q}(h:fW P G0 r4 (.region id ops d) (λe c H1=>e=.normal/\mr n t A_ E H c H1) E H)(g:Q .normal ((t,.pv (.bool A_))::E) H):fW P G0 r4 (.region id ops d) Q E H:=by intro G f a w k ro j;refine wpIn_mono (h G f a w k _ j) ?_;rintro e B w' ⟨c,H1,⟨rfl,i⟩,b⟩;exact⟨_,_,g,(i.ent) G f r4 _ _ b⟩
theorem aT{id n t}{A_}{Q}(h:AL P G0 r4 ops (λc H1=>mr n t A_ E H c H1) ops.toList E H)(e:Q .normal ((t,.pv (.bool A_))::E) H):fW P G0 r4 (.region id ops η) Q E H :=pX (D3 (λG i a w j ro g B f=>h G i a w j _ g _ (λc H1 D F d b=>f _ _ _ _ ⟨Z,d⟩ b))) e
end
section
variable{o:Oper}{v:AV}{t:Tmp}{b:Bool}{r:Rec}
theorem aBP(e:o.guard=A (j,T))(d:jZ ops j=A t)(a:E.get t=A (.pv (.bool b)))(c:b=T)(h:cP P r4 o (restr E (jD ops o)) H v H):DStep P r4 ops o E H ⟨v,ζ,[]⟩:=.qon e d a c h
theorem aBQ(e:o.guard=A (j,η))(d:jZ ops j=A t)(a:E.get t=A (.pv (.bool b)))(c:b=η)(h:cP P r4 o (restr E (jD ops o)) H v H):DStep P r4 ops o E H ⟨v,ζ,[]⟩:=.qon e d a c h
theorem Vr(e:o.guard=A (j,T))(d:jZ ops j=A t)(a:E.get t=A (.pv (.bool b)))(c:b=η):DStep P r4 ops o E H ⟨.tup [],A [],[]⟩:=.qoff e d a (by simp[offB,c])
theorem Vs(e:o.guard=A (j,η))(d:jZ ops j=A t)(a:E.get t=A (.pv (.bool b)))(c:b=T):DStep P r4 ops o E H ⟨.tup [],A [],[]⟩:=.qoff e d a (by simp[offB,c])
theorem Vq{a}(d:o.guard=A (j,a))(e:jZ ops j=A t)(c:E.get t=A (.tup [])):DStep P r4 ops o E H ⟨.tup [],A [],[]⟩:=.qoff d e c Z
theorem Nx(e:o.guard=A (j,T))(d:jZ ops j=A t)(a:E.get t=A (.pv (.bool b)))(c:b=T)(h:∀H1,(∀id,uF r.R id=T->H1.get id=H.get id)->cP P r4 o (restr E (jD ops o)) H1 r.v (r.W++H1)):DStep P r4 ops o E H r:=.on j _ t b e d a c h
end
theorem aU.pure{P}{f}{args}{b}(h:aU P f args [] (λr H=>r=b/\H=[]))(c:∀a∈args,Clo [] a)(H):aU P f args H (λr H'=>r=b/\H'=H) :=(h.frame0 c (λ_ _ g=>g.2) H).mono λ_ _ ⟨⟨e,_⟩,d⟩=>⟨e,d⟩
def JS(P:Program)(id g:Nat)(args:List AV)(H:aF)(Q:AV->aF->Prop):Prop :=∀(I:Nat->Prop) (ι:mD) (w:World) (vs:Array Value) (v:Value),Rel I ι H w->VRel w I ι H v (.yld id g)->vs.size=C args->(∀(i:Nat) (v:Value) (a:AV),vs[i]?=A v->args[i]?=A a->VRel w I ι H v a) ->
  ∃l f tmps assign body,v=.func (.yield l) #[] #[]/\(Instr.yield l vs).run P w=.ok (.round l f tmps assign body) w /\
   RoundIn Fence.wide 0 P l f tmps assign body w λe w'=>∃r H' D B E,e=.returned E/\Q r H'/\VRel w' D B H' E r/\Rel D B H' w'/\Step I ι H w D B H' w'
def dQ(P:Program)(B:AV)(args:List AV)(H:aF)(Q:AV->aF->Prop):Prop :=(∃id g,B=.yld id g/\JS P id g args H Q)\/∃F caps,(B=.clo F caps\/(B=.pv (.fn F)/\caps=[]))/\(∀(args:Array Value) (w:World),(callFunc F args).run P w=.ok (.enter F args) w)/\aU P F (args++caps) H Q
theorem dQ.clo{P}{F}{a args}{H}{Q}(b:∀(args) (w),(callFunc F args).run P w=.ok (.enter F args) w)(h:aU P F (args++a) H Q):dQ P (.clo F a) args H Q:=.inr ⟨F,a,.inl Z,b,h⟩
theorem dQ.fn{P}{F}{args}{H}{Q}(a:∀(args) (w),(callFunc F args).run P w=.ok (.enter F args) w)(h:aU P F args H Q):dQ P (.pv (.fn F)) args H Q:=.inr ⟨F,[],.inr ⟨Z,Z⟩,a,by simpa using h⟩
theorem ar{P}{o:Oper}{Q}{f}{args}{c}{e}(s:o.op=.call {callee:=.value f,args:=args,argTypes:=c})(t:aQ E f=A (.yld id g))
  (j:zF E args.toList=A e) (h:JS P id g e H Q):nv P r4 o E H Q:=by
 intro a w I p _ _ u k K B D;have d:=aJ k t;have ⟨l1,m⟩:=pT k (oE j);have ⟨l,fn,tmps,assign,body,r,x,n⟩:=h I p w (args.map a.eval) _ u d F_ (λi v b j q=>m i v b F_ q);unfold Oper.wpW execOp;simp only[s,resolve,r,Deferred.ofValue,Sem.run_bind,Sem.run_pure,Result.andThen_ok,invoke,Array.empty_append,x];refine n.mono ?_
 grind
theorem dK{P}{r4}{o}{E}{H}{Q}{f}{args}{i}{l}{j}(b:o.op=.call {callee:=.value f,args:=args,argTypes:=i})(e:aQ E f=A j)
  (c:zF E args.toList=A l) (h:dQ P j l H Q):nv P r4 o E H Q:=by
 rcases h with⟨id,g,rfl,h⟩|⟨F,caps,d,k,a⟩
 .exact ar b e c h
 rcases d with rfl|⟨rfl,rfl⟩
 .exact aw b e k c a
 exact bH b e k c (by simpa using a)
def Si(E:dG):dG->Prop
 | []=>True
 |(t,v)::r=>(∃v0,E.get t=A v0/\v0=v)/\Si E r
theorem cH.e0{G0}{E E'}{H}(h:Si E E'):cH G0 E H E' H:=by
 refine cH.env ?_
 induction E' with
 |nil=>simp
 |cons x r F =>
  obtain ⟨⟨v0,B,rfl⟩,D⟩:=h
  grind
theorem Fin.refl{G0 H}{r}:Fin G0 H r H r:=λ_ _ I b _ _ a d c=>⟨I,b,a,d,c⟩
def aCQ:AV->Option Value
 |.pv (.int k n)=>A (.int k n)
 |.pv (.bool b)=>A (.bool b)
 |.pv (.str s)=>A (.string s)
 |_=>ζ
def LV:List AV->Option (List Value)
 | []=>A []
 |a::r=>match aCQ a,LV r with
  |some v,A vs=>A (v::vs)
  |_,_=>ζ
theorem Yk{w}{I}{ι}{H}{c v}{a}(h:VRel w I ι H c a)(b:aCQ a=A v):c=v:=by
 unfold aCQ at b
 split at b<;>cases b
 .exact h.int_inv
 .exact h.bool_inv
 exact h.str_inv
theorem LU{l:List AV}{d:List Value}(h:VRel w I ι H c (.agg l))(p:LV l=A d):c=.agg d.toArray:=by
 cases h with
 | @agg b _ s n f =>
  congr 1;have m:∀(l:List AV) (d b:List Value),C b=C l->(∀(i:Nat) (v:Value) (a:AV),b[i]?=A v->l[i]?=A a->VRel w I ι H v a)->LV l=A d->b=d:=by
   intro l
   induction l with
   |nil=>intro d b n _ e;simp[LV]at e;simp_all
   | cons a r x =>
    intro d b n f e;unfold LV at e
    split at e
    .rename_i v k o t;cases e;cases b with
     |nil=>grind
     |cons u b =>
      have q:u=v:=Yk (f 0 u a Z Z) o;rw[q,x k b G_ (λi v a j g=>f (i+1) v a (by simpa using j) (by simpa using g)) t]
    grind
  have:=m l d b.toList (by simpa using s) (λi v a j g=>f i v a (by simpa using j) g) p;rw[<-this]
section
variable{o:Oper}{u4 t':TypeId}{x y:Operand}{l1 l2:List AV}{xs ys:List Value}{b:Bool}
theorem BY(g:o.op=.binOp .eql u4 x y t')(i:aQ E x=A (.agg l1))(h:aQ E y=A (.agg l2))(f:LV l1=A xs)(l:LV l2=A ys)(k:P.eqGuardType P.depth u4=η)
  (d:∀w,(Op.equalIn 10000 u4 (.agg xs.toArray) (.agg ys.toArray)).run P w=.ok b w):cP P r4 o E H (.pv (.bool b)) H :=
 .of_run λa w I ι _ c=>⟨.bool b,by
  have e:=LU (aJ c i) f;have j:=LU (aJ c h) l;simp[execOp,g,e,j,Sem.run_bind,run_eqGuard_agg w _ _ _ _ _ _ k,Result.andThen_ok,run_eql_struct w,d,Sem.run_pure],.pv (.bool _)⟩
theorem K7(g:o.op=.binOp .neq u4 x y t')(i:aQ E x=A (.agg l1))(h:aQ E y=A (.agg l2))(f:LV l1=A xs)(l:LV l2=A ys)(k:P.eqGuardType P.depth u4=η)
  (d:∀w,(Op.equalIn 10000 u4 (.agg xs.toArray) (.agg ys.toArray)).run P w=.ok b w):cP P r4 o E H (.pv (.bool (!b))) H :=
 .of_run λa w I ι _ c=>⟨.bool _,by
  have e:=LU (aJ c i) f;have j:=LU (aJ c h) l;simp[execOp,g,e,j,Sem.run_bind,run_eqGuard_agg w _ _ _ _ _ _ k,Result.andThen_ok,run_neq_struct w,d,Sem.run_pure],.pv (.bool _)⟩
end
theorem lT{n}(h0 : -9223372036854775808<=n)(B:n<=9223372036854775807):ξ.wrap n=n:=by rw[IntKind.wrap_i64];omega
theorem wu8{n}(B:0<=n)(D:n<=255):IntKind.u8.wrap n=n:=by
 simp[IntKind.wrap,IntKind.bits,IntKind.signed]
 grind
end
abbrev iv(n:Int):AV:=.pv (.int .i64 n)
abbrev bv(b:Bool):AV:=.pv (.bool b)
abbrev sv(s:B_):AV:=.pv (.str s)
abbrev lv(l:List (List PV)):AV:=.pv (.sl l)
abbrev av(l:List PV):AV:=.agg (l.map .pv)
abbrev bx(n u4:Nat)(r:List AV):Ob:=⟨0,n,u4,[r]⟩
theorem dN.of{H}(h:∀p∈H,∀r∈p.2.rows,∀a∈r,Clo H a):dN H:=λ_ _ b=>h _ (eH b)
theorem Sub.app{D H}(b:∀p∈D,H.get p.1=ζ):Sub H (D++H):=λid o a=>by
 rw[QU];cases e:D.get _ with
 |none=>exact a
 |some B=>exact absurd (b _ (eH e)) F_
def DC(P:Program)(r4:Nat)(ops rest:List Oper)(E:dG)(H:aF)(K:List Rec->dG->aF->Prop):Prop:=∃rs E' H',DChain P r4 ops rest E H rs E' H'/\K rs E' H'
theorem bG{P}{r4}{ops}{E}{H}{K}(h:K [] E H):DC P r4 ops [] E H K:=⟨_,_,_,.nil,h⟩
theorem iP{P}{r4}{ops rest}{o}{E}{H}{K}{r}(h:DStep P r4 ops o E H r)(B:jI r4 o.dst=T)
  (b:DC P r4 ops rest (nR E o.dst r.v) (r.W++H) (λa E' H'=>K (r::a) E' H')):DC P r4 ops (o::rest) E H K:=by
 have ⟨a,E',H',d,c⟩:=b;exact⟨_,_,_,.cons h B d,c⟩
theorem aM{P}{G0}{r4 id}{Q}{ops}{E}{H}(b:P.follows .mixedOrders=T)
  (h:DC P r4 ops.toList ops.toList E H (λa E' H'=>TB ops.toList a=T/\Q .normal E' H')):fW P G0 r4 (.region id ops T) Q E H:=by
 have ⟨a,E',H',e,c,d⟩:=h;exact Ra b e c d
end Go.Abs
