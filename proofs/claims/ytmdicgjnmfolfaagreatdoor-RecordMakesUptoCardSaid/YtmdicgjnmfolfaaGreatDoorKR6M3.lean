/-
  Parts of the proof: rules of an abstract program logic, contracts of functions, plain laws. Conditions: each theorem's own.
-/
import Derived.Test.YtmdicgjnmfolfaaGreatDoorKR6M2
import Derived.OpenShut
import Derived.JoinedCond
import Derived.Carry
import Derived.MapKept
import Derived.Laws.IdiomRangeMap
import Derived.Lib.Bytealg
import Derived.Scope
set_option linter.unusedVariables false
set_option linter.unusedSimpArgs false
set_option maxRecDepth 100000
set_option maxHeartbeats 8000000
namespace Go.Proofs
open Tryz
theorem yH:type_of% call140:=call140
theorem aPO:type_of% call180:=call180
theorem yE:type_of% call230:=call230
theorem aDa:type_of% call261:=call261
theorem US:type_of% call62:=call62
theorem pH:type_of% call70:=call70
theorem iF:type_of% eqGuardType68:=eqGuardType68
theorem cS:type_of% isAgg149:=isAgg149
theorem cE:type_of% isAgg153:=isAgg153
theorem aOA:type_of% isAgg158:=isAgg158
theorem uI:type_of% isAgg199:=isAgg199
theorem aG:type_of% isAgg22:=isAgg22
theorem BT:type_of% isAgg5:=isAgg5
theorem dS:type_of% isAgg68:=isAgg68
theorem oT:type_of% sizeOf124:=sizeOf124
theorem aMC:type_of% sizeOf135:=sizeOf135
theorem bC:type_of% sizeOf153:=sizeOf153
theorem yB:type_of% sizeOf158:=sizeOf158
theorem kJ:type_of% sizeOf199:=sizeOf199
theorem aNx:type_of% sizeOf20:=sizeOf20
theorem aL:type_of% sizeOf30:=sizeOf30
theorem cM:type_of% sizeOf5:=sizeOf5
theorem dL:type_of% underlying124:=underlying124
theorem cZ:type_of% underlying149:=underlying149
theorem jX:type_of% underlying151:=underlying151
theorem fQ:type_of% underlying153:=underlying153
theorem fP:type_of% underlying158:=underlying158
theorem FA:type_of% underlying172:=underlying172
theorem iE:type_of% underlying182:=underlying182
theorem E9:type_of% underlying187:=underlying187
theorem aA6:type_of% underlying218:=underlying218
theorem aD:type_of% underlying22:=underlying22
theorem dB:type_of% underlying23:=underlying23
theorem gY:type_of% underlying25:=underlying25
theorem dM:type_of% underlying26:=underlying26
theorem pS:type_of% underlying270:=underlying270
theorem nJ:type_of% underlying28:=underlying28
theorem eC:type_of% underlying30:=underlying30
theorem fW:type_of% underlying5:=underlying5
theorem HE:type_of% underlying69:=underlying69
theorem HD:type_of% zeroValue122:=zeroValue122
theorem HB:type_of% zeroValue151:=zeroValue151
theorem aD5:type_of% zeroValue153:=zeroValue153
theorem aD4:type_of% zeroValue187:=zeroValue187
theorem aD3:type_of% zeroValue199:=zeroValue199
theorem aGm:type_of% zeroValue20:=zeroValue20
theorem aGl:type_of% zeroValue22:=zeroValue22
theorem aGk:type_of% zeroValue25:=zeroValue25
theorem uP:type_of% zeroValue3:=zeroValue3
theorem aGj:type_of% zeroValue30:=zeroValue30
theorem aGi:type_of% zeroValue37:=zeroValue37
theorem nI:type_of% zeroValue4:=zeroValue4
theorem CZ:type_of% zeroValue5:=zeroValue5
theorem aGh:type_of% zeroValue68:=zeroValue68
theorem uO:type_of% zeroValue9:=zeroValue9
end Go.Proofs
namespace Go.Abs
open Go.Proofs.YtmdicgjnmfolfaaGreatDoor Go.ChangeShapes Go.WideShapes Go.ChangeAt Go.RowKit
variable{n base:Nat}{v:Value}{f:Func}{s:ChangeSpec}{c:Bool}{args:Array Value}
section
def aBn(P:Program)(t:TypeId)(ps:List PV):AV :=match P.underlying t with
 |some (.struct _)=>.agg (ps.map .pv)
 |some (.array _ _)=>.agg (ps.map .pv)
 |_=>match ps with
  | [p]=>.pv p
  |_=>.any
section
variable{H:Type}{enc:TypeId×Value->H}{P:Program}{W:World}{B:Nat}
theorem PL.toV{I}{ι}{Hp}{cs}{ps}(h:PL W I cs ps)(i:Nat)(v)(a)(d:cs[i]?=some v)(b:(ps.map AV.pv)[i]?=some a):VRel W I ι Hp v a/\v.oneCell'=true:=by rw[aQY]at b;obtain ⟨p,c,rfl⟩:=Option.map_eq_some_iff.1 b;have:=h.get i v p d c;exact⟨.pv this,this.oneCell⟩
theorem aNZ{n}{t}{v}{base}(d:BE P n t=true)(b:Value.okWide P W .any base t v)(hno:∀fs,P.underlying t=some (.struct fs)->False)(hno2:∀k e,P.underlying t=some (.array k e)->False):v.cells.toList=[v]:=by
 cases n with
 |zero=>cases d
 |succ n =>
  unfold BE at d;unfold Value.okWide at b
  split at d
  ·next c=>cases v<;>first|rfl|(simp[Cell.okWide,Cell.ok,c]at b)
  ·next k c=>cases v<;>first|rfl|(simp[Cell.okWide,Cell.ok,c]at b)
  ·next c=>cases v<;>first|rfl|(simp[Cell.okWide,Cell.ok,c]at b)
  ·next e c=>cases v<;>first|rfl|(simp[Cell.okWide,Cell.ok,c]at b)
  all_goals simp_all
theorem aJ0{t:TypeId}{d:DataW H}{p:List MemPlace}(ι:kY)(Hp:aH)(x:BE P n t=true)(b:Value.okWide P W .any base t v)(h:DataW.Trod enc P W 0 (fun _=>true) true t v d p)(z:Rows.uptoBulk d<=B):
  ∃ps,Sh P B n t ps/\VRel W (Old W) ι Hp v (aBn P t ps):=by
 obtain ⟨m,A⟩:=h;obtain ⟨ps,f,C⟩:=KI (B:=B) n t x m _ _ A z;refine⟨ps,C,?_⟩;unfold aBn
 split
 ·next w s =>
  unfold Value.okWide at b;rw[s]at b;obtain ⟨y,rfl,_,_⟩:=b;have u:=f.length;simp only[Value.cells,Array.length_toList]at u;refine .agg (by simp_all) (fun i v c=>?_) (fun i v a c r=>?_)
  ·have l:=(Array.getElem?_eq_some_iff.1 c).1;exact(PL.toV (ι:=ι) (Hp:=Hp) f i v (.pv (ps[i]'(by omega))) (by simpa[Value.cells]using c) (by simp_all)).2
  exact(PL.toV f i v a (by simpa[Value.cells]using c) r).1
 ·next k e s =>
  unfold Value.okWide at b;rw[s]at b;obtain ⟨y,rfl,_,_⟩:=b;have u:=f.length;simp only[Value.cells,Array.length_toList]at u;refine .agg (by simp_all) (fun i v c=>?_) (fun i v a c r=>?_)
  ·have l:=(Array.getElem?_eq_some_iff.1 c).1;exact(PL.toV (ι:=ι) (Hp:=Hp) f i v (.pv (ps[i]'(by omega))) (by simpa[Value.cells]using c) (by simp_all)).2
  exact(PL.toV f i v a (by simpa[Value.cells]using c) r).1
 next o g =>
 split
 ·next q =>
  have j:=aNZ x b (fun w h=>o w h) (fun k e h=>g k e h);rw[j]at f;exact(PL.toV f 0 _ _ rfl rfl).1
 exact .any v
def JW(P:Program):List TypeId->List (List PV)->List AV
 |t::ts,p::ps=>aBn P t p::JW P ts ps
 |_,_=>[]
def SE(P:Program)(B n:Nat):List TypeId->List (List PV)->Prop
 | [],[]=>True
 |t::ts,p::ps=>Sh P B n t p/\SE P B n ts ps
 |_,_=>False
theorem aCU{n}{a}(h:SE P B n [] a):a=[]:=by
 cases a with
 |nil=>rfl
 |cons p ps=>exact h.elim
theorem EK{n}{t}{b}{a}(h:SE P B n (t::b) a):∃p ps,a=p::ps/\Sh P B n t p/\SE P B n b ps:=by
 cases a with
 |nil=>exact h.elim
 |cons p ps=>exact⟨p,ps,rfl,h.1,h.2⟩
theorem X9{n}{base}(ι)(Hp):∀ {c} {e} {l} {p},DataW.TrodAll enc P W 0 (fun _=>true) true c e l p->c.all (BE P n)=true ->
  (∀(j:Nat) t v,c[j]?=some t->e[j]?=some v->Value.okWide P W .any base t v)->Rows.uptoBulkAll l<=B ->
  ∃b,SE P B n c b/\e.length=(JW P c b).length/\∀(i:Nat) (v) (a),e[i]?=some v->(JW P c b)[i]?=some a->VRel W (Old W) ι Hp v a
 | [],e,l,p,h,k,m,o=>by
  obtain ⟨rfl,rfl,rfl⟩:=trodAll_nil h;exact⟨[],trivial,rfl,fun i v a h=>by grind⟩
 |t::c,e,l,p,h,k,m,o=>by
  obtain ⟨v,vs',d,ds',p1,p2,rfl,rfl,rfl,g,f⟩:=trodAll_cons h;simp only[List.all_cons,aQN]at k;simp[Rows.uptoBulkAll]at o;obtain ⟨r,x,u⟩:=aJ0 (B:=B) _ _ k.1 (m 0 t v rfl rfl) g (by omega);obtain ⟨b,q,w,s⟩:=X9 _ _ f k.2 (fun j t v g f=>m (j+1) t v g f) (by omega);refine⟨r::b,⟨x,q⟩,by simp[JW,w],fun i v a g f=>?_⟩;cases i with
  |zero=>cases g;cases f;exact u
  |succ i=>exact s i v a g f
theorem aHp(ι)(W)(a:ON (Old W) W):Rel (Old W) ι [] W:=⟨fun _ h=>h,fun _ _ h=>(by cases h),fun _ _ _ _ _ _ _ h=>(by cases h),a⟩
theorem aAX{I d}{ι a}{H'}{w w'}(h:Step I ι [] w d a H' w'):Below w.heap.size w w' :=⟨h.os,h.tape,h.output,h.size,fun k b=>h.keep k b (fun⟨_,_,_,c,_⟩=>by cases c)⟩
theorem OD(m:laidOutB P=true){k:World}(l:Below W.heap.size W k){j}:∀ {f} {g} {e} {p},DataW.TrodAll enc P W 0 (fun _=>true) true f g e p ->
  (f.all fun t=>P.readableRec t&&Nat.blt t P.types.size)=true->(∀x∈p,x.block<W.heap.size)->(∀x∈p,j x.block=true)->DataW.TrodAll enc P k 0 j true f g e p
 | [],g,e,p,h,c,a,b=>by
  obtain ⟨rfl,rfl,rfl⟩:=trodAll_nil h;exact trodAll_mk0
 | t::f,g,e,p,h,c,a,b=>by
  obtain ⟨v,vs',d,ds',p1,p2,rfl,rfl,rfl,o,n⟩:=trodAll_cons h;simp only[List.all_cons,aQN,Nat.blt_eq]at c;exact trodAll_cons_mk (WideElems.Trod_stays m c.1.1 c.1.2 o (fun x i=>l.same (a x (by grind))) (fun x i=>b x (by grind)))
   (OD m l n c.2 (fun x i=>a x (by grind)) (fun x i=>b x (by grind)))
theorem ZK{g m l:Bool}{W n:World}{q x:List (DataW H)}{a pa pv:List MemPlace}
  (y:DataW.Whole enc P f.params.toList s.vars g W args.toList q x a)
  (h:∀(b:Nat) (k:Nat->Bool) (hd:Bool),DataW.TrodAll enc P n b k hd f.resultTypes.toList (v.resultList f.resultTypes.size) (s.fn H (q++x)).results [])
  (e:∀k:Nat->Bool,(∀p∈a,k p.block=true)->DataW.TrodAll enc P n 0 k true f.params.toList args.toList (s.fn H (q++x)).args pa)
  (d:∀k:Nat->Bool,(∀p∈a,k p.block=true)->DataW.TrodVars enc P n k s.vars (s.fn H (q++x)).vars pv)
  (C:a=pa++pv) (D:Below W.heap.size W n)
  (z:∀(j:Nat) (t:TypeId) (r:Value),f.resultTypes[j]?=some t->(v.resultList f.resultTypes.size)[j]?=some r->Value.okWide P n .any 0 t r) :
  s.post enc P f g m c l W args v n:=by
 have A:∀p∈a,p.block<W.heap.size:=fun p o=>y.lt p o;have i:∀p∈a,(fun b=>decide (b<W.heap.size)) p.block=true:=fun p o=>by simp_all
 refine⟨q,x,a,[],pa,pv,y,h _ _ _,e _ i,d _ i,World.keptBut_mono (fun p o=>⟨o,?_⟩) (D.frame (·∈a)),fun _=>?_⟩
 ·simp_all
 obtain ⟨_,_,_,_,_,E,hn⟩:=y;refine⟨z,_,_,([]++pa)++pv,⟨[]++pa,pv,trodAll_append (e _ (fun _ _=>rfl)) (h _ _ _),d _ (fun _ _=>rfl),rfl,?_,?_⟩,?_⟩
 ·intro b w o;have u:MemPlace.cell b w∈a:=by rw[C];simpa using o
  rw[D.frozen (A _ u)];exact E b w u
 all_goals simp_all
theorem aF4{J:FuncId}{k C A:Bool}{h gs:List (DataW H)}{m:List MemPlace}{bt:TypeId}
  (hl:laidOutB P=true) (w:(f.params.toList.all fun t=>P.readableRec t&&Nat.blt t P.types.size)=true) (l:f.params.toList.all (BE P n)=true) (g:s.vars=[])
  (F:∀h:List (DataW H),h.length=f.params.toList.length->(s.fn H h).results=[.lit (.bool true)]/\(s.fn H h).args=h/\(s.fn H h).vars=[])
  (z:f.resultTypes=#[bt]) (G:P.underlying bt=some .bool)
  (u:∀(j:Nat) t v,f.params[j]?=some t->args[j]?=some v->Value.okWide P W .any base t v)
  (T:DataW.Whole enc P f.params.toList s.vars k W args.toList h gs m) (S:Rows.uptoBulkAll h<=B)
  (V:∀o,SE P B n f.params.toList o->aI P J (JW P f.params.toList o) [] (fun r H'=>r=.pv (.bool true)/\H'=[])) (hg:ON (Old W) W:=by exact fun p hp=>by cases hp) :
  Calls P J args W fun e Y=>∃v,e=.returned v/\s.post enc P f k C c A W args v Y:=by
 have D:=T;obtain ⟨p,q,E,L,rfl,N,M⟩:=T;rw[g]at L;obtain ⟨rfl,rfl⟩:=trodVars_none L;obtain ⟨o,Z,h2,X⟩:=X9 (B:=B) (base:=base) (fun _=>none) [] E l (fun j t v ht R=>u j t v (by simp_all) (by simp_all)) S;have hlen:h.length=f.params.toList.length:=by
  clear Z h2 X V F w l u D S N M;revert E;generalize f.params.toList=U;generalize args.toList=vs;intro E;clear L
  induction U generalizing vs h p with
  |nil=>obtain ⟨_,rfl,_⟩:=trodAll_nil E;rfl
  |cons t U ih =>
   obtain ⟨v,vs',d,ds',p1,p2,_,rfl,_,_,h2⟩:=trodAll_cons E
   grind
 refine(V o Z (Old W) (fun _=>none) W args (aHp _ W hg) (by omega) (fun i v a ha hb=>X i v a (by simp_all) hb)).mono ?_;rintro e Y ⟨r,H',I',ι',v,rfl,⟨rfl,rfl⟩,R,hr,K⟩;have O:v=.bool true:=R.bool_inv;subst O;have y:=aAX K;obtain ⟨f1,f2,f3⟩:=F (h++[]) (by simp_all);refine⟨_,rfl,ZK (pa:=p) (pv:=[]) D (fun b Q hd=>?_) (fun Q I=>?_) (fun Q I=>?_) rfl y (ok_one z rfl (okWide_bool_mk G _))⟩
 ·rw[f1,z];exact trodAll_cons_mk (shut_bool G _) trodAll_mk0
 ·rw[f2,List.append_nil];exact OD hl y E w (fun x hx=>D.lt x (by grind)) (fun x hx=>I x (by grind))
 rw[f3,g];rfl
theorem uT{n}{t}{k}{ps}(ht:P.underlying t=some (.int k))(h:Sh P B (n+1) t ps):∃i,ps=[.int k i]/\(Lit.int k i).wf=true:=by unfold Sh at h;simp_all
theorem aH5{n}{t}{ps}(ht:P.underlying t=some .bool)(h:Sh P B (n+1) t ps):∃b,ps=[.bool b]:=by unfold Sh at h;simp_all
theorem pL{n}{t}{ps}(ht:P.underlying t=some .string)(h:Sh P B (n+1) t ps):∃s,ps=[.str s]/\s.size<=B:=by unfold Sh at h;simp_all
theorem rS{n}{t}{fs}{ps}(a:P.underlying t=some (.struct fs))(h:Sh P B (n+1) t ps):ShF (fun t ps=>Sh P B n t ps) P.cellsOf fs.toList ps:=by unfold Sh at h;rw[a]at h;exact h
theorem KQ{t e}{ps}{α:Type}{f}{good:α->Prop}(j:P.underlying t=some (.slice e))(h:Sh P B (n+1) t ps)(hd:∀r,Sh P B n e r->∃a,r=f a/\good a):
  ∃l:List α,ps=[.sl (l.map f)]/\l.length<=B/\∀a,a∈l->good a:=by
 unfold Sh at h;rw[j]at h;obtain ⟨c,rfl,d,g⟩:=h;obtain ⟨l,k,m⟩:∃l:List α,c=l.map f/\∀a,a∈l->good a:=by
  clear d
  induction c with
  |nil=>simp_all
  |cons r rs i =>
   obtain ⟨l,k,m⟩:=i (fun r h=>g r (by simp[h]));obtain ⟨a,a1,a2⟩:=hd r (g r (by simp)).2;refine⟨a::l,by simp_all,fun b hb=>?_⟩
   grind
 grind
end
end
end Go.Abs
namespace Go.Proofs.YtmdicgjnmfolfaaGreatDoor
open Go.Proofs.Tryz
open Go.Abs
variable{α:Type}{k:Nat}
theorem zo3:eN Tryz.prog 3 [.pv (.int .i64 0)]:=⟨_,_,uP,.inl rfl,rfl⟩
theorem zo4:eN Tryz.prog 4 [.pv (.bool false)]:=⟨_,_,nI,.inl rfl,rfl⟩
theorem zo5:eN Tryz.prog 5 [.pv (.int .u8 0)]:=⟨_,_,CZ,.inl rfl,rfl⟩
theorem zo9:eN Tryz.prog 9 [.pv (.str ⟨#[]⟩)]:=⟨_,_,uO,.inl rfl,rfl⟩
theorem aMZ:eN Tryz.prog 22 [.pv (.sl [])]:=⟨_,_,aGl,.inl rfl,rfl⟩
theorem aDk:eN Tryz.prog 22 [.pv .nils]:=⟨_,_,aGl,.inr rfl,rfl⟩
theorem cC:fC Tryz.prog 22 9 1:=⟨aD,sizeOf9,by decide,_,uO⟩
theorem xI:EI Tryz.prog 9 1 16:=EI.mk (z:=(Value.string ⟨#[]⟩)) (by kernel_rfl) rfl (by decide) (by decide)
theorem aMT:eN Tryz.prog 23 [.pv .nils]:=⟨_,_,zeroValue23,.inr rfl,rfl⟩
theorem SQ:fC Tryz.prog 23 153 15:=⟨dB,bC,by decide,_,aD5⟩
theorem aNh:EI Tryz.prog 153 15 216:=EI.mk (z:=(Value.agg #[(Value.int IntKind.i64 (0)),(Value.string ⟨#[]⟩),(Value.string ⟨#[]⟩),(Value.string ⟨#[]⟩),(Value.int IntKind.i64 (0)),(Value.int IntKind.i64 (0)),(Value.string ⟨#[]⟩),(Value.string ⟨#[]⟩),(Value.slice none (0) (0)),(Value.string ⟨#[]⟩),(Value.int IntKind.i64 (0)),(Value.int IntKind.i64 (0)),(Value.int IntKind.i64 (0)),(Value.slice none (0) (0)),(Value.slice none (0) (0))])) (by kernel_rfl) rfl (by decide) (by decide)
theorem FG:eN Tryz.prog 25 [.pv (.int .i64 0),.pv (.sl []),.pv (.sl [])]:=⟨_,_,aGk,.inl rfl,rfl⟩
theorem lM:cV Tryz.prog 25 0 0:=by refine⟨_,_,0,gY,rfl,rfl,?_⟩;exact sizeOf3
theorem iA:cV Tryz.prog 25 1 1:=by refine⟨_,_,0,gY,rfl,rfl,?_⟩;exact sizeOf22
theorem kV:cV Tryz.prog 25 2 2:=by refine⟨_,_,0,gY,rfl,rfl,?_⟩;exact sizeOf22
theorem PT:mL Tryz.prog 25 [(0,1),(1,1),(2,1)] [.pv (.int .i64 0),.pv (.sl []),.pv (.sl [])]:=⟨_,#[(0,1),(1,1),(2,1)],_,_,gY,aGk,.inl rfl,rfl,fun w=>by simp[sizeOf3,sizeOf22],rfl⟩
theorem aKC:mL Tryz.prog 25 [(0,1),(1,1),(2,1)] [.pv (.int .i64 0),.pv .nils,.pv .nils]:=⟨_,#[(0,1),(1,1),(2,1)],_,_,gY,aGk,.inr rfl,rfl,fun w=>by simp[sizeOf3,sizeOf22],rfl⟩
theorem MC:fC Tryz.prog 26 68 2:=⟨dM,sizeOf68,by decide,_,aGh⟩
theorem aPA:EI Tryz.prog 68 2 16:=EI.mk (z:=(Value.agg #[(Value.int IntKind.i64 (0)),(Value.int IntKind.i64 (0))])) (by kernel_rfl) rfl (by decide) (by decide)
theorem aKT:eN Tryz.prog 28 [.pv (.str ⟨#[]⟩),.pv (.str ⟨#[]⟩),.pv (.sl []),.pv (.sl []),.pv (.int .i64 0),.pv (.sl []),.pv (.sl [])]:=⟨_,_,zeroValue28,.inl rfl,rfl⟩
theorem xT:cV Tryz.prog 28 0 0:=by refine⟨_,_,0,nJ,rfl,rfl,?_⟩;exact sizeOf9
theorem xS:cV Tryz.prog 28 1 1:=by refine⟨_,_,0,nJ,rfl,rfl,?_⟩;exact sizeOf9
theorem rB:cV Tryz.prog 28 2 2:=by refine⟨_,_,0,nJ,rfl,rfl,?_⟩;exact sizeOf22
theorem mF:cV Tryz.prog 28 3 3:=by refine⟨_,_,0,nJ,rfl,rfl,?_⟩;exact sizeOf26
theorem nA:cV Tryz.prog 28 4 4:=by refine⟨_,_,2,nJ,rfl,rfl,?_⟩;exact sizeOf25
theorem aLv:mL Tryz.prog 28 [(0,1),(1,1),(2,1),(3,1),(4,3)] [.pv (.str ⟨#[]⟩),.pv (.str ⟨#[]⟩),.pv (.sl []),.pv (.sl []),.pv (.int .i64 0),.pv (.sl []),.pv (.sl [])]:=⟨_,#[(0,1),(1,1),(2,1),(3,1),(4,3)],_,_,nJ,zeroValue28,.inl rfl,rfl,fun w=>by simp[sizeOf9,sizeOf22,sizeOf25,sizeOf26],rfl⟩
theorem FF:eN Tryz.prog 30 [.pv (.int .i64 0),.pv (.int .i64 0),.pv (.int .i64 0),.pv (.int .i64 0),.pv (.str ⟨#[]⟩),.pv (.sl []),.pv (.sl []),.pv (.str ⟨#[]⟩),.pv (.bool false),.pv (.int .i64 0),.pv (.str ⟨#[]⟩),.pv (.int .i64 0),.pv (.sl []),.pv (.sl []),.pv (.str ⟨#[]⟩),.pv (.str ⟨#[]⟩),.pv (.sl []),.pv (.sl []),.pv (.int .i64 0),.pv (.sl []),.pv (.sl [])]:=⟨_,_,aGj,.inl rfl,rfl⟩
theorem lL:cV Tryz.prog 30 0 0:=by refine⟨_,_,0,eC,rfl,rfl,?_⟩;exact sizeOf3
theorem tH:cV Tryz.prog 30 1 1:=by refine⟨_,_,0,eC,rfl,rfl,?_⟩;exact sizeOf3
theorem nX:cV Tryz.prog 30 2 2:=by refine⟨_,_,0,eC,rfl,rfl,?_⟩;exact sizeOf3
theorem vV:cV Tryz.prog 30 3 3:=by refine⟨_,_,0,eC,rfl,rfl,?_⟩;exact sizeOf3
theorem vU:cV Tryz.prog 30 4 4:=by refine⟨_,_,0,eC,rfl,rfl,?_⟩;exact sizeOf9
theorem lK:cV Tryz.prog 30 5 5:=by refine⟨_,_,0,eC,rfl,rfl,?_⟩;exact sizeOf22
theorem vT:cV Tryz.prog 30 6 6:=by refine⟨_,_,0,eC,rfl,rfl,?_⟩;exact sizeOf23
theorem vS:cV Tryz.prog 30 7 7:=by refine⟨_,_,0,eC,rfl,rfl,?_⟩;exact sizeOf9
theorem CN:cV Tryz.prog 30 8 8:=by refine⟨_,_,0,eC,rfl,rfl,?_⟩;exact sizeOf4
theorem tG:cV Tryz.prog 30 9 9:=by refine⟨_,_,0,eC,rfl,rfl,?_⟩;exact sizeOf3
theorem rA:cV Tryz.prog 30 10 10:=by refine⟨_,_,0,eC,rfl,rfl,?_⟩;exact sizeOf9
theorem kQ:cV Tryz.prog 30 11 11:=by refine⟨_,_,2,eC,rfl,rfl,?_⟩;exact sizeOf25
theorem eS:cV Tryz.prog 30 12 14:=by refine⟨_,_,6,eC,rfl,rfl,?_⟩;exact sizeOf28
theorem J7:mL Tryz.prog 30 [(0,1),(1,1),(2,1),(3,1),(4,1),(5,1),(6,1),(7,1),(8,1),(9,1),(10,1),(11,3),(14,7)] [.pv (.int .i64 0),.pv (.int .i64 0),.pv (.int .i64 0),.pv (.int .i64 0),.pv (.str ⟨#[]⟩),.pv (.sl []),.pv (.sl []),.pv (.str ⟨#[]⟩),.pv (.bool false),.pv (.int .i64 0),.pv (.str ⟨#[]⟩),.pv (.int .i64 0),.pv (.sl []),.pv (.sl []),.pv (.str ⟨#[]⟩),.pv (.str ⟨#[]⟩),.pv (.sl []),.pv (.sl []),.pv (.int .i64 0),.pv (.sl []),.pv (.sl [])]:=⟨_,#[(0,1),(1,1),(2,1),(3,1),(4,1),(5,1),(6,1),(7,1),(8,1),(9,1),(10,1),(11,3),(14,7)],_,_,eC,aGj,.inl rfl,rfl,fun w=>by simp[sizeOf3,sizeOf4,sizeOf9,sizeOf22,sizeOf23,sizeOf25,sizeOf28],rfl⟩
theorem aEN:fC Tryz.prog 34 3 1:=⟨underlying34,sizeOf3,by decide,_,uP⟩
theorem ei3:EI Tryz.prog 3 1 8:=EI.mk (z:=(Value.int IntKind.i64 (0))) (by kernel_rfl) rfl (by decide) (by decide)
theorem aO2:eN Tryz.prog 37 [.pv (.sl []),.pv (.sl []),.pv (.sl []),.pv (.int .i64 0),.pv (.sl []),.pv (.sl [])]:=⟨_,_,aGi,.inl rfl,rfl⟩
theorem aMS:eN Tryz.prog 37 [.pv .nils,.pv .nils,.pv .nils,.pv (.int .i64 0),.pv .nils,.pv .nils]:=⟨_,_,aGi,.inr rfl,rfl⟩
theorem T0:cV Tryz.prog 37 1 1:=by refine⟨_,_,0,underlying37,rfl,rfl,?_⟩;exact sizeOf22
theorem aNq:mL Tryz.prog 37 [(0,1),(1,1),(2,1),(3,1),(4,1),(5,1)] [.pv (.sl []),.pv (.sl []),.pv (.sl []),.pv (.int .i64 0),.pv (.sl []),.pv (.sl [])]:=⟨_,#[(0,1),(1,1),(2,1),(3,1),(4,1),(5,1)],_,_,underlying37,aGi,.inl rfl,rfl,fun w=>by simp[sizeOf3,sizeOf22,sizeOf33,sizeOf34,sizeOf35],rfl⟩
theorem aKR:eN Tryz.prog 41 [.pv (.int .i64 0)]:=⟨_,_,zeroValue41,.inl rfl,rfl⟩
theorem aMV:eN Tryz.prog 68 [.pv (.int .i64 0),.pv (.int .i64 0)]:=⟨_,_,aGh,.inl rfl,rfl⟩
theorem pR:cV Tryz.prog 68 0 0:=by refine⟨_,_,0,underlying68,rfl,rfl,?_⟩;exact sizeOf3
theorem pQ:cV Tryz.prog 68 1 1:=by refine⟨_,_,0,underlying68,rfl,rfl,?_⟩;exact sizeOf3
theorem X3:mL Tryz.prog 68 [(0,1),(1,1)] [.pv (.int .i64 0),.pv (.int .i64 0)]:=⟨_,#[(0,1),(1,1)],_,_,underlying68,aGh,.inl rfl,rfl,fun w=>by simp[sizeOf3],rfl⟩
theorem SZ(a0 b0:Int)(a1 b1:Int)(w:World):(Op.equalIn 10000 68 (.agg [.int .i64 a0,.int .i64 a1].toArray) (.agg [.int .i64 b0,.int .i64 b1].toArray)).run Tryz.prog w=.ok (decide (a0=b0)&&decide (a1=b1)) w:=by
 refine(run_equalIn_struct (P:=Tryz.prog) w 9999 68 _ _ (by simp[Program.fieldsOf,underlying68]) stoodInHeld68).trans ?_;have h3:∀(d:Nat) (a b:Int) (w:World),(Op.equalIn (d+1) 3 (.int .i64 a) (.int .i64 b)).run Tryz.prog w=.ok (decide (a=b)) w:=fun d a b w=>by rw[run_equalIn_int w d 3 _ _ a b underlying3];by_cases h:a=b<;>simp[h]
 by_cases e0:a0=b0<;>by_cases e1:a1=b1<;>simp[Program.fieldsOf,underlying68,Op.eqFields,part,h3,isAgg3,e0,e1]
theorem aMk:fC Tryz.prog 69 30 21:=⟨HE,aL,by decide,_,aGj⟩
theorem aMU:eN Tryz.prog 72 [.pv (.sl [])]:=⟨_,_,zeroValue72,.inl rfl,rfl⟩
theorem aMR:eN Tryz.prog 72 [.pv .nils]:=⟨_,_,zeroValue72,.inr rfl,rfl⟩
theorem Y1:fC Tryz.prog 72 9 1:=⟨underlying72,sizeOf9,by decide,_,uO⟩
theorem aO0:eN Tryz.prog 82 [.pv .nilp]:=⟨_,_,zeroValue82,.inl rfl,rfl⟩
theorem aFt:cV Tryz.prog 84 0 0:=by refine⟨_,_,0,underlying84,rfl,rfl,?_⟩;exact sizeOf9
theorem aPE:mL Tryz.prog 84 [(0,1)] [.pv (.str ⟨#[]⟩)]:=⟨_,#[(0,1)],_,_,underlying84,zeroValue84,.inl rfl,rfl,fun w=>by simp[sizeOf9],rfl⟩
theorem aOZ:eN Tryz.prog 98 [.pv .nilfn]:=⟨_,_,zeroValue98,.inl rfl,rfl⟩
theorem aM2:eN Tryz.prog 122 [.pv (.int .u64 0)]:=⟨_,_,HD,.inl rfl,rfl⟩
theorem aM1:eN Tryz.prog 123 [.pv (.int .u8 0),.pv (.int .u8 0),.pv (.int .u8 0),.pv (.int .u8 0),.pv (.int .u8 0),.pv (.int .u8 0),.pv (.int .u8 0),.pv (.int .u8 0)]:=⟨_,_,zeroValue123,.inl rfl,rfl⟩
theorem yN:fC Tryz.prog 124 5 1:=⟨dL,cM,by decide,_,CZ⟩
theorem ei5:EI Tryz.prog 5 1 1:=EI.mk (z:=(Value.int IntKind.u8 (0))) (by kernel_rfl) rfl (by decide) (by decide)
theorem aAa:eN Tryz.prog 128 [.pv (.int .u8 0),.pv (.int .u8 0),.pv (.int .u8 0),.pv (.int .u8 0),.pv (.int .u8 0),.pv (.int .u8 0),.pv (.int .u8 0),.pv (.int .u8 0),.pv (.int .u8 0),.pv (.int .u8 0),.pv (.int .u8 0),.pv (.int .u8 0),.pv (.int .u8 0),.pv (.int .u8 0),.pv (.int .u8 0),.pv (.int .u8 0)]:=⟨_,_,zeroValue128,.inl rfl,rfl⟩
theorem wV:fC Tryz.prog 133 20 1:=⟨underlying133,aNx,by decide,_,aGm⟩
theorem HH:eN Tryz.prog 137 [.pv .nilp,.pv .nils]:=⟨_,_,zeroValue137,.inr rfl,rfl⟩
theorem xF:cV Tryz.prog 137 0 0:=by refine⟨_,_,0,underlying137,rfl,rfl,?_⟩;exact aMC
theorem gL:cV Tryz.prog 137 1 1:=by refine⟨_,_,0,underlying137,rfl,rfl,?_⟩;exact oT
theorem kH:fC Tryz.prog 149 199 2:=⟨cZ,kJ,by decide,_,aD3⟩
theorem aJy:EI Tryz.prog 199 2 32:=EI.mk (z:=(Value.agg #[(Value.string ⟨#[]⟩),(Value.string ⟨#[]⟩)])) (by kernel_rfl) rfl (by decide) (by decide)
theorem aA9:eN Tryz.prog 151 [.pv (.str ⟨#[]⟩),.pv (.int .i64 0),.pv (.int .i64 0),.pv (.int .i64 0),.pv (.sl []),.pv (.sl [])]:=⟨_,_,HB,.inl rfl,rfl⟩
theorem aKQ:eN Tryz.prog 151 [.pv (.str ⟨#[]⟩),.pv (.int .i64 0),.pv (.int .i64 0),.pv (.int .i64 0),.pv .nils,.pv .nils]:=⟨_,_,HB,.inr rfl,rfl⟩
theorem oH:cV Tryz.prog 151 0 0:=by refine⟨_,_,0,jX,rfl,rfl,?_⟩;exact sizeOf9
theorem eB:cV Tryz.prog 151 1 1:=by refine⟨_,_,0,jX,rfl,rfl,?_⟩;exact sizeOf3
theorem mI:cV Tryz.prog 151 2 2:=by refine⟨_,_,1,jX,rfl,rfl,?_⟩;exact sizeOf68
theorem dT:cV Tryz.prog 151 3 4:=by refine⟨_,_,0,jX,rfl,rfl,?_⟩;exact sizeOf22
theorem fB:cV Tryz.prog 151 4 5:=by refine⟨_,_,0,jX,rfl,rfl,?_⟩;exact sizeOf149
theorem R7:mL Tryz.prog 151 [(0,1),(1,1),(2,2),(4,1),(5,1)] [.pv (.str ⟨#[]⟩),.pv (.int .i64 0),.pv (.int .i64 0),.pv (.int .i64 0),.pv (.sl []),.pv (.sl [])]:=⟨_,#[(0,1),(1,1),(2,2),(4,1),(5,1)],_,_,jX,HB,.inl rfl,rfl,fun w=>by simp[sizeOf3,sizeOf9,sizeOf22,sizeOf68,sizeOf149],rfl⟩
theorem aLu:mL Tryz.prog 151 [(0,1),(1,1),(2,2),(4,1),(5,1)] [.pv (.str ⟨#[]⟩),.pv (.int .i64 0),.pv (.int .i64 0),.pv (.int .i64 0),.pv .nils,.pv .nils]:=⟨_,#[(0,1),(1,1),(2,2),(4,1),(5,1)],_,_,jX,HB,.inr rfl,rfl,fun w=>by simp[sizeOf3,sizeOf9,sizeOf22,sizeOf68,sizeOf149],rfl⟩
theorem PX:eN Tryz.prog 153 [.pv (.int .i64 0),.pv (.str ⟨#[]⟩),.pv (.str ⟨#[]⟩),.pv (.str ⟨#[]⟩),.pv (.int .i64 0),.pv (.int .i64 0),.pv (.str ⟨#[]⟩),.pv (.str ⟨#[]⟩),.pv (.sl []),.pv (.str ⟨#[]⟩),.pv (.int .i64 0),.pv (.int .i64 0),.pv (.int .i64 0),.pv (.sl []),.pv (.sl [])]:=⟨_,_,aD5,.inl rfl,rfl⟩
theorem gG:cV Tryz.prog 153 0 0:=by refine⟨_,_,0,fQ,rfl,rfl,?_⟩;exact sizeOf3
theorem gX:cV Tryz.prog 153 1 1:=by refine⟨_,_,0,fQ,rfl,rfl,?_⟩;exact sizeOf9
theorem iC:cV Tryz.prog 153 2 2:=by refine⟨_,_,0,fQ,rfl,rfl,?_⟩;exact sizeOf9
theorem mH:cV Tryz.prog 153 3 3:=by refine⟨_,_,0,fQ,rfl,rfl,?_⟩;exact sizeOf9
theorem gW:cV Tryz.prog 153 4 4:=by refine⟨_,_,1,fQ,rfl,rfl,?_⟩;exact sizeOf68
theorem kD:cV Tryz.prog 153 5 6:=by refine⟨_,_,0,fQ,rfl,rfl,?_⟩;exact sizeOf9
theorem kR:cV Tryz.prog 153 6 7:=by refine⟨_,_,0,fQ,rfl,rfl,?_⟩;exact sizeOf9
theorem eY:cV Tryz.prog 153 7 8:=by refine⟨_,_,0,fQ,rfl,rfl,?_⟩;exact sizeOf22
theorem oG:cV Tryz.prog 153 8 9:=by refine⟨_,_,5,fQ,rfl,rfl,?_⟩;exact sizeOf151
theorem EA:mL Tryz.prog 153 [(0,1),(1,1),(2,1),(3,1),(4,2),(6,1),(7,1),(8,1),(9,6)] [.pv (.int .i64 0),.pv (.str ⟨#[]⟩),.pv (.str ⟨#[]⟩),.pv (.str ⟨#[]⟩),.pv (.int .i64 0),.pv (.int .i64 0),.pv (.str ⟨#[]⟩),.pv (.str ⟨#[]⟩),.pv (.sl []),.pv (.str ⟨#[]⟩),.pv (.int .i64 0),.pv (.int .i64 0),.pv (.int .i64 0),.pv (.sl []),.pv (.sl [])]:=⟨_,#[(0,1),(1,1),(2,1),(3,1),(4,2),(6,1),(7,1),(8,1),(9,6)],_,_,fQ,aD5,.inl rfl,rfl,fun w=>by simp[sizeOf3,sizeOf9,sizeOf22,sizeOf68,sizeOf151],rfl⟩
theorem JH:fC Tryz.prog 172 22 1:=⟨FA,sizeOf22,by decide,_,aGl⟩
theorem aJb:eN Tryz.prog 182 [.pv (.sl [])]:=⟨_,_,zeroValue182,.inl rfl,rfl⟩
theorem aDl:eN Tryz.prog 182 [.pv .nils]:=⟨_,_,zeroValue182,.inr rfl,rfl⟩
theorem oJ:fC Tryz.prog 182 187 3:=⟨iE,sizeOf187,by decide,_,aD4⟩
theorem aGC:EI Tryz.prog 187 3 32:=EI.mk (z:=(Value.agg #[(Value.int IntKind.i64 (0)),(Value.string ⟨#[]⟩),(Value.int IntKind.i64 (0))])) (by kernel_rfl) rfl (by decide) (by decide)
theorem aM0:eN Tryz.prog 187 [.pv (.int .i64 0),.pv (.str ⟨#[]⟩),.pv (.int .i64 0)]:=⟨_,_,aD4,.inl rfl,rfl⟩
theorem GN:cV Tryz.prog 187 0 0:=by refine⟨_,_,0,E9,rfl,rfl,?_⟩;exact sizeOf3
theorem mG:cV Tryz.prog 187 1 1:=by refine⟨_,_,0,E9,rfl,rfl,?_⟩;exact sizeOf9
theorem K4:cV Tryz.prog 187 2 2:=by refine⟨_,_,0,E9,rfl,rfl,?_⟩;exact sizeOf3
theorem aKE:mL Tryz.prog 187 [(0,1),(1,1),(2,1)] [.pv (.int .i64 0),.pv (.str ⟨#[]⟩),.pv (.int .i64 0)]:=⟨_,#[(0,1),(1,1),(2,1)],_,_,E9,aD4,.inl rfl,rfl,fun w=>by simp[sizeOf3,sizeOf9],rfl⟩
theorem aJa:eN Tryz.prog 199 [.pv (.str ⟨#[]⟩),.pv (.str ⟨#[]⟩)]:=⟨_,_,aD3,.inl rfl,rfl⟩
theorem nG:cV Tryz.prog 199 0 0:=by refine⟨_,_,0,underlying199,rfl,rfl,?_⟩;exact sizeOf9
theorem oF:cV Tryz.prog 199 1 1:=by refine⟨_,_,0,underlying199,rfl,rfl,?_⟩;exact sizeOf9
theorem aKD:mL Tryz.prog 199 [(0,1),(1,1)] [.pv (.str ⟨#[]⟩),.pv (.str ⟨#[]⟩)]:=⟨_,#[(0,1),(1,1)],_,_,underlying199,aD3,.inl rfl,rfl,fun w=>by simp[sizeOf9],rfl⟩
theorem aJi(a0 b0:ByteArray)(a1 b1:ByteArray)(w:World):(Op.equalIn 10000 199 (.agg [.string a0,.string a1].toArray) (.agg [.string b0,.string b1].toArray)).run Tryz.prog w=.ok (decide (a0=b0)&&decide (a1=b1)) w:=by
 refine(run_equalIn_struct (P:=Tryz.prog) w 9999 199 _ _ (by simp[Program.fieldsOf,underlying199]) stoodInHeld199).trans ?_;have h9:∀(d:Nat) (a b:ByteArray) (w:World),(Op.equalIn (d+1) 9 (.string a) (.string b)).run Tryz.prog w=.ok (decide (a=b)) w:=fun d a b w=>by rw[run_equalIn_string w d 9 a b underlying9,zA]
 by_cases e0:a0=b0<;>by_cases e1:a1=b1<;>simp[Program.fieldsOf,underlying199,Op.eqFields,part,h9,isAgg9,e0,e1]
theorem aDm:eN Tryz.prog 218 [.pv (.int .i64 0),.pv (.str ⟨#[]⟩),.pv (.int .i64 0),.pv (.int .i64 0)]:=⟨_,_,zeroValue218,.inl rfl,rfl⟩
theorem nF:cV Tryz.prog 218 0 0:=by refine⟨_,_,2,aA6,rfl,rfl,?_⟩;exact sizeOf187
theorem rC:cV Tryz.prog 218 1 3:=by refine⟨_,_,0,aA6,rfl,rfl,?_⟩;exact sizeOf41
theorem aNr:mL Tryz.prog 218 [(0,3),(3,1)] [.pv (.int .i64 0),.pv (.str ⟨#[]⟩),.pv (.int .i64 0),.pv (.int .i64 0)]:=⟨_,#[(0,3),(3,1)],_,_,aA6,zeroValue218,.inl rfl,rfl,fun w=>by simp[sizeOf41,sizeOf187],rfl⟩
theorem aKP:eN Tryz.prog 245 [.pv .nilp,.pv .nils]:=⟨_,_,zeroValue245,.inr rfl,rfl⟩
theorem oE:cV Tryz.prog 245 0 0:=by refine⟨_,_,1,underlying245,rfl,rfl,?_⟩;exact sizeOf137
theorem aMY:eN Tryz.prog 247 [.pv .nilfn]:=⟨_,_,zeroValue247,.inl rfl,rfl⟩
theorem aMX:eN Tryz.prog 269 [.pv (.str ⟨#[]⟩),.pv (.str ⟨#[]⟩),.pv (.str ⟨#[]⟩),.pv (.str ⟨#[]⟩),.pv (.str ⟨#[]⟩),.pv (.str ⟨#[]⟩)]:=⟨_,_,zeroValue269,.inl rfl,rfl⟩
theorem aNv:K8 Tryz.prog 269 1 [.pv (.str ⟨#[]⟩),.pv (.str ⟨#[]⟩),.pv (.str ⟨#[]⟩),.pv (.str ⟨#[]⟩),.pv (.str ⟨#[]⟩),.pv (.str ⟨#[]⟩)]:=⟨_,_,_,_,underlying269,zeroValue269,.inl rfl,rfl,sizeOf9⟩
theorem aMW:eN Tryz.prog 270 [.pv .nilm]:=⟨_,_,zeroValue270,.inl rfl,rfl⟩
theorem aKH:K8 Tryz.prog 274 1 [.pv (.str ⟨#[]⟩),.pv (.str ⟨#[]⟩),.pv (.str ⟨#[]⟩),.pv (.str ⟨#[]⟩)]:=⟨_,_,_,_,underlying274,zeroValue274,.inl rfl,rfl,sizeOf9⟩
theorem aNu:K8 Tryz.prog 280 1 [.pv (.int .i64 0),.pv (.int .i64 0),.pv (.int .i64 0),.pv (.int .i64 0),.pv (.int .i64 0),.pv (.int .i64 0)]:=⟨_,_,_,_,underlying280,zeroValue280,.inl rfl,rfl,sizeOf3⟩
theorem follows:Tryz.prog.follows .mixedOrders=true:=by kernel_rfl
structure GTag where
 key:ByteArray
 val:ByteArray
structure GObj where
 id:ByteArray
 kind:Int
 x:Int
 y:Int
 refs:List ByteArray
 tags:List GTag
structure GEdit where
 op:Int
 id:ByteArray
 other:ByteArray
 node:ByteArray
 x:Int
 y:Int
 key:ByteArray
 val:ByteArray
 refs:List ByteArray
 obj:GObj
def encStr(s:ByteArray):List PV:=[.str s]
def jT(n:Int):List PV:=[.int .i64 n]
def bQ(t:GTag):List PV:=[.str t.key,.str t.val]
def bW(o:GObj):List PV:=[.str o.id,.int .i64 o.kind,.int .i64 o.x,.int .i64 o.y,.sl (o.refs.map encStr),.sl (o.tags.map bQ)]
def bA(e:GEdit):List PV:=[.int .i64 e.op,.str e.id,.str e.other,.str e.node,.int .i64 e.x,.int .i64 e.y,.str e.key,.str e.val,.sl (e.refs.map encStr),
 .str e.obj.id,.int .i64 e.obj.kind,.int .i64 e.obj.x,.int .i64 e.obj.y,.sl (e.obj.refs.map encStr),.sl (e.obj.tags.map bQ)]
def aZ(l:List ByteArray):PV:=.sl (l.map encStr)
def rR(l:List GTag):PV:=.sl (l.map bQ)
def iO(l:List GEdit):PV:=.sl (l.map bA)
def zObj:GObj:=⟨⟨#[]⟩,0,0,0,[],[]⟩
theorem cI{f:α->List PV}{l:List α}{a:α}(h:l[k]?=some a):(l.map f)[k]?=some (f a):=by rw[aQY,h];rfl
theorem aU{l:List α}(h:k<l.length):∃a,l[k]?=some a:=⟨_,aQJ h⟩
theorem RT{p:α->Bool}{l:List α}{a:α}(h:∀j,j<k->∀b,l[j]?=some b->p b=false)(hk:l[k]?=some a)(hp:p a=true):l.findIdx? p=some k:=by rw[List.findIdx?_eq_some_iff_getElem];obtain ⟨hlt,he⟩:=aQI.1 hk;refine⟨hlt,by rw[he];exact hp,fun j hj=>?_⟩;have:=h j hj l[j] (aQJ (by omega));simp[this]
theorem RU{p:α->Bool}{l:List α}(h:∀j,j<l.length->∀b,l[j]?=some b->p b=false):l.findIdx? p=none:=by rw[List.findIdx?_eq_none_iff];intro x hx;obtain ⟨j,hj⟩:=aQZ.1 hx;exact h j (aQI.1 hj).1 x hj
def xR{α:Type}(p:α->Bool)(l:List α):Int:=match l.findIdx? p with|some i=>(i:Int)|none => -1
theorem aFq(p:α->Bool)(l:List α):decide (0<=xR p l)=l.any p:=by
 unfold xR;cases h:l.findIdx? p with
 | none =>
  have:l.any p=false:=by
   rw[List.findIdx?_eq_none_iff]at h;rw[List.any_eq_false];intro x hx;simp[h x hx]
  simp[this]
 | some i =>
  have:l.any p=true:=by
   rw[List.findIdx?_eq_some_iff_getElem]at h;obtain ⟨h1,h2,_⟩:=h;exact List.any_eq_true.2 ⟨_,List.getElem_mem h1,h2⟩
  simp[this]
theorem aAJ(p:α->Bool)(l:List α):(xR p l = -1/\l.find? p=none)\/∃(k:Nat) (o:α),xR p l=(k:Int)/\l[k]?=some o/\l.find? p=some o:=by
 cases h:l.findIdx? p with
 |none =>
  left;refine⟨by simp[xR,h],?_⟩;rw[List.findIdx?_eq_none_iff]at h;rw[List.find?_eq_none];intro x hx;simp[h x hx]
 |some k =>
  right;have h':=h;rw[List.findIdx?_eq_some_iff_getElem]at h;obtain ⟨h1,h2,h3⟩:=h;refine⟨k,l[k],by simp[xR,h'],aQJ h1,?_⟩;rw[List.find?_eq_some_iff_getElem];exact⟨h2,k,h1,rfl,fun j hj=>by have:=h3 j hj;simpa using this⟩
theorem vB{p:α->Bool}{l:List α}{a:α}(h:∀j,j<k->∀b,l[j]?=some b->p b=false)(hk:l[k]?=some a)(hp:p a=false):∀j,j<k+1->∀b,l[j]?=some b->p b=false:=by
 intro j hj b hb;by_cases e:j=k
 ·subst e;rw[hk]at hb;cases hb;exact hp
 exact h j (by omega) b hb
theorem CY{p:α->Bool}{l:List α}(h:∀j,j<l.length->∀b,l[j]?=some b->p b=false):l.any p=false:=by rw[List.any_eq_false];intro x hx;obtain ⟨j,hj⟩:=aQZ.1 hx;simp[h j (aQI.1 hj).1 x hj]
theorem zN{p:α->Bool}{l:List α}{a:α}(hk:l[k]?=some a)(hp:p a=true):l.any p=true:=List.any_eq_true.2 ⟨_,aQO hk,hp⟩
end Go.Proofs.YtmdicgjnmfolfaaGreatDoor
namespace Go.Abs
variable{H H':aH}{x:Obj}{I:Nat->Prop}{ι:kY}{w w':World}{id:Nat}{ob':Ob}
def OS(H:aH):aH->Prop
 | []=>True
 |(id,o)::r=>H.get id=some o/\OS H r
theorem OS.sub{H}:∀ {L},OS H L->Sub L H
 | [],_,id,o,h=>by cases h
 |(i,o')::r,h,id,o,a=>by
  simp[aH.get]at a;cases e:Nat.beq i _ with
  |true=>rw[e]at a;cases a;rw[<-Nat.eq_of_beq_eq_true e];exact h.1
  |false=>rw[e]at a;exact h.2.sub _ o a
theorem gD(D H)(k):aH.get (D++H) k=match D.get k with|some v=>some v|none=>H.get k:=DF D H k
theorem aI.frame{P:Program}{f:FuncId}{args:List AV}{H0 H1:aH}{r0:AV}(h:aI P f args H0 (fun r H'=>r=r0/\H'=H1))(A:Sub H0 H)(u:eI H0)(Z:∀a∈args,Clo H0 a)
  (hk:∀id,(H1.get id).isSome=true->(H0.get id).isSome=true\/H.get id=none):aI P f args H (fun r H'=>r=r0/\H'=H1++H):=by
 intro I L w vs F hl O;refine(h I L w vs (F.restrict A u) hl (fun i v a g h2=>(O i v a g h2).restrict A (Z a (aQO h2)))).mono ?_;rintro e w' ⟨r,H',T,D,v,rfl,⟨rfl,rfl⟩,k1,V,n⟩;obtain ⟨s,hι2⟩:∃s:kY,s=(fun j=>if(H'.get j).isSome=true then D j else L j):=⟨_,rfl⟩;have C:∀j o,H'.get j=some o->s j=D j:=fun j o d=>by simp_all
 have J:∀j,H'.get j=none->s j=L j:=fun j d=>by simp_all
 have g1:∀j o,H'.get j=some o->aH.get (H'++H) j=some o:=fun j o d=>by rw[gD,d]
 have G:∀j,H'.get j=none->aH.get (H'++H) j=H.get j:=fun j d=>by rw[gD,d]
 have Y:∀j o,H.get j=some o->H'.get j=none->H0.get j=none:=fun j o d K=>by
  cases e:H0.get j with
  |none=>rfl
  |some o0 =>
   obtain ⟨p,W,_⟩:=n.objs j o0 e
   simp_all
 have y:∀j o b c,H.get j=some o->H'.get j=none->L j=some (b,c)->¬ KA L H0 b:=fun j o b c d K S ⟨m,p,B,l,X⟩=>by
  have:=F.inj j m o p b c B d (A _ _ l) S X;subst this;rw[Y j o d K]at l;cases l
 have M:Step I L H w T s (H'++H) w':=by
  refine⟨n.os,n.tape,n.output,n.size,fun a Z K=>n.froz a Z (fun h=>K (h.sub A)),n.imm,fun b S=>?_,?_,?_,?_⟩
  ·rcases n.immNew b S with g|g|g
   ·exact .inl g
   ·exact .inr (.inl (g.sub A))
   exact .inr (.inr g)
  ·rintro b ⟨j,o,c,d,u⟩;cases e:H'.get j with
   |some p =>
    rw[C j p e]at u;rcases n.own b ⟨j,p,c,e,u⟩with g|g
    ·exact .inl (g.sub A)
    exact .inr g
   |none =>
    rw[J j e]at u;rw[G j e]at d;exact .inl ⟨j,o,c,d,u⟩
  ·intro b S K;exact n.keep b S (fun h=>K (h.sub A))
  intro j o d;cases e:H'.get j with
  |some p =>
   rcases hk j (by rw[e];rfl)with g|g
   ·obtain ⟨o0,e0⟩:=Option.isSome_iff_exists.1 g;have:=A _ _ e0;rw[d]at this;cases this;obtain ⟨o2,q1,q2,q3⟩:=n.objs j o e0;exact⟨o2,g1 j o2 q1,q2,fun e=>by rw[C j o2 q1];exact q3 e⟩
   rw[d]at g;cases g
  |none=>exact⟨o,(G j e).trans d,aQK _,fun _=>⟨J j e,rfl,fun _=>aQK _⟩⟩
 have N:∀ {v:Value} {a:AV},VRel w' T D H' v a->VRel w' T s (H'++H) v a:=fun hva =>
  hva.mono' (fun _ _=>rfl) (fun _ h=>h) (fun id o ho=>⟨o,g1 id o ho,aQK _,fun _=>⟨C id o ho,rfl,fun _=>aQK _⟩⟩)
 refine⟨r,H'++H,T,s,v,rfl,⟨rfl,rfl⟩,N k1,⟨V.imm,fun j o d=>?_,fun j m o p b c B d l u k=>?_,V.glob⟩,M⟩
 ·cases e:H'.get j with
  |some p =>
   rw[g1 j p e]at d;obtain rfl:p=o:=Option.some.inj d;exact(V.obj j p e).keep (C j p e) (fun _ _ _ _=>⟨rfl,fun h=>h⟩) (fun r _ a _ v O=>N O)
  |none =>
   rw[G j e]at d;refine(F.obj j o d).keep (J j e) (fun U z W E=>⟨n.keep U E (y j o U z d e W),fun e3 hi=>?_⟩) (fun r _ a _ v O=>O.mono F M);rcases n.immNew U hi with g|g|g
   ·exact e3 g
   ·exact y j o U z d e W g
   omega
 cases e:H'.get j with
 | some q =>
  rw[C j q e]at u;cases x:H'.get m with
  |some Q =>
   rw[C m Q x]at k;exact V.inj j m q Q b c B e x u k
  |none =>
   rw[J m x]at k;rw[G m x]at l;have E:=F.lt ⟨m,p,B,l,k⟩;rcases n.own b ⟨j,q,c,e,u⟩with g|g
   ·exact absurd g (y m p b B l x k)
   omega
 | none =>
  rw[J j e]at u;rw[G j e]at d;cases x:H'.get m with
  |some Q =>
   rw[C m Q x]at k;have E:=F.lt ⟨j,o,c,d,u⟩;rcases n.own b ⟨m,Q,B,x,k⟩with g|g
   ·exact absurd g (y j o b c d e u)
   omega
  |none =>
   rw[J m x]at k;rw[G m x]at l;exact F.inj j m o p b c B d l u k
section
structure KeyKind(α:Type) where
 d:TypeDesc
 pv:α->PV
 val:α->Value
 rel:∀(w:World) (I:Nat->Prop) (v:Value) (a:α),PRep w I v (pv a)->v=val a
 inj:∀a b,val a=val b->a=b
 is:∀a,MapKept.IsKey d (val a)
 rep:∀(w:World) (I:Nat->Prop) (a:α),PRep w I (val a) (pv a)
def aCI:KeyKind ByteArray:=⟨.string,.str,.string,fun _ _ _ _ h=>by cases h;rfl,fun _ _ h=>by cases h;rfl,fun _=>trivial,fun _ _ _=>.str _⟩
def aGR:KeyKind Bool:=⟨.bool,.bool,.bool,fun _ _ _ _ h=>by cases h;rfl,fun _ _ h=>by cases h;rfl,fun _=>trivial,fun _ _ _=>.bool _⟩
def rM{α:Type}(κ:KeyKind α)(l:List (α×AV)):List (List AV):=l.mapIdx fun i p=>[.pv (κ.pv p.1),p.2,.pv (.int .i64 i)]
theorem H8{α}{κ:KeyKind α}{l}{i:Nat}{r}:(rM κ l)[i]?=some r↔∃p,l[i]?=some p/\r=[.pv (κ.pv p.1),p.2,.pv (.int .i64 i)]:=by
 rw[rM]
 grind
theorem GB{α}(κ:KeyKind α)(l):(rM κ l).length=l.length:=by simp[rM]
theorem aBG{α}{κ:KeyKind α}{H}{w}{I}{ι}{v}{k}(h:VRel w I ι H v (.pv (κ.pv k))):v=κ.val k:=κ.rel _ _ _ _ h.pv_inv
section
variable{α:Type}
structure MapAt(w:World)(I:Nat->Prop)(ι:kY)(H:aH)(κ:KeyKind α)(l:List (α×AV))(es:Array MapEntry):Prop where
 size:es.size=l.length
 rel:∀(i:Nat) (p:α×AV),l[i]?=some p->∃e,es[i]?=some e/\e.born=i/\e.key=κ.val p.1/\VRel w I ι H e.val p.2
theorem aFP{w}{I}{ι}{H}{id b}{ob}{κ:KeyKind α}{l}(h:lP w I ι H id ob)(o:ob.sz=0)(d:ι id=some (b,0))(c:ob.rows=rM κ l):
  ∃f,w.heap[b]?=some (.map f ob.ty)/\¬ I b/\MapAt w I ι H κ l f:=by
 obtain ⟨_,b',f,g,r,t,u,e5,e6,v⟩:=h.map o d;rw[d]at g;cases g;refine⟨f,r,t,⟨by rw[u,c,GB],fun i p j=>?_⟩⟩;obtain ⟨e,k,a,n,q,y,s,x,m⟩:=v i _ (by rw[c];exact H8.2 ⟨p,j,rfl⟩);cases y;exact⟨e,q,by injection m.int_inv with _ hh;omega,κ.rel _ _ _ _ s.pv_inv,x⟩
theorem MapAt.born{w}{I}{ι}{H}{κ:KeyKind α}{l}{c}(h:MapAt w I ι H κ l c){i}{e}(hi:c[i]?=some e):e.born=i/\i<l.length:=by
 have a:i<l.length:=by rw[<-h.size];grind
 obtain ⟨e',b,d,_⟩:=h.rel i _ (aQJ a);rw[hi]at b;cases b;exact⟨d,a⟩
section
variable{id b cap:Nat}{ob ob':Ob}
def World.setObj(w:World)(b:Nat)(x:Obj):World:={w with heap:=w.heap.setIfInBounds b x}
def aB3:Obj->Bool
 |.cells ..=>true
 |_=>false
theorem Rel.rewrite{x0:Obj}(g:Rel I ι H w)(B:H.get id=some ob)(k:ι id=some (b,cap))(hz:ob.sz=0)(O:w.heap[b]?=some x0)(h0:aB3 x0=false)(hx:aB3 x=false)(hg:ob'.g=ob.g)(hz':ob'.sz=0)
  (n:w.heap.size=(World.setObj w b x).heap.size->(World.setObj w b x).heap[b]?=some x->¬ I b->(∀v a,VRel w I ι H v a->VRel (World.setObj w b x) I ι H' v a)->lP (World.setObj w b x) I ι H' id ob')
  (K:H'.get id=some ob') (G:∀j,j≠id->H'.get j=H.get j):Rel I ι H' (World.setObj w b x)/\Step I ι H w I ι H' (World.setObj w b x):=by
 have p:KA ι H b:=⟨id,ob,cap,B,k⟩;obtain ⟨A,i⟩:=MapKept.heap_set (w:=w) (o':=x) O;have d:Step I ι H w I ι H' (World.setObj w b x):=by
  refine⟨rfl,rfl,rfl,by simp[World.setObj],fun a _ _=>?_,fun _ h=>h,fun _ h=>.inl h,?_,?_,?_⟩
  ·by_cases e:a.block=b
   ·simp_all
   simp[World.frozen?,World.setObj,i _ e]
  ·rintro y ⟨j,o,c,f,C⟩;by_cases e:j=id
   ·simp_all
   exact .inl ⟨j,o,c,(G j e).symm.trans f,C⟩
  ·intro y _ s;exact i y (fun e=>s (e▸p))
  grind
 refine⟨⟨fun y s=>by simpa[World.setObj]using g.imm y s,?_,?_,d.glob g⟩,d⟩
 ·intro j o f;by_cases e:j=id
  ·subst e;rw[K]at f;cases f;exact n (by simp[World.setObj]) A ((g.obj j ob B).block k).2 (fun v a D=>D.mono g d)
  rw[G j e]at f;exact(g.obj j o f).keep rfl (fun y c s _=>⟨i y (fun E=>e (g.inj j id o ob b c cap f B (E▸s) k)),fun h=>h⟩) (fun r _ a _ v D=>D.mono g d)
 intro j F o N y c L f u C t;have l:∀j o,H'.get j=some o->∃o,H.get j=some o:=by
  grind
 obtain ⟨q,J⟩:=l j o f;obtain ⟨M,z⟩:=l F N u;exact g.inj j F q M y c L J z C t
theorem Rel.remap{κ:KeyKind α}{l:List (α×AV)}{q c:Array MapEntry}{u:Nat}(z:Rel I ι H w)(x:H.get id=some ob)(g:ι id=some (b,0))(B:ob.sz=0)(y:w.heap[b]?=some (.map q u))(D:ob'.g=ob.g)(h:ob'.sz=0)(hty:ob'.ty=l.length)(a:ob'.rows=rM κ l)
  (f:MapAt w I ι H κ l c) (v:H'.get id=some ob') (E:∀j,j≠id->H'.get j=H.get j):Rel I ι H' (World.setObj w b (.map c l.length))/\Step I ι H w I ι H' (World.setObj w b (.map c l.length)):=by
 refine z.rewrite x g B y rfl rfl D h (fun _ hs1 A d=>?_) v E;refine .inr (.inl ⟨h,b,c,g,by simp_all,A,by rw[f.size,a,GB],fun i e o=>?_,fun i j e e' hij o F=>?_,fun i r k=>?_⟩)
 ·obtain ⟨m,n⟩:=f.born o
  simp_all
 ·have m:=(f.born o).1;have n:=(f.born F).1;omega
 rw[a]at k;obtain ⟨p,s,rfl⟩:=H8.1 k;obtain ⟨e,m,n,C,t⟩:=f.rel i p s;exact⟨e,_,_,_,m,rfl,by rw[C];exact .pv (κ.rep _ _ p.1),d _ _ t,by rw[n];exact .pv (.int _ _)⟩
end
theorem aFO{w}{I}{ι}{H}{v}{id g}{ob}(h:VRel w I ι H v (.mp id g))(hH:H.get id=some ob)(hg:ob.g=g):ob.sz=0/\∃b,ι id=some (b,0)/\v=.map (some b):=by
 cases h with
 |mp o' h1 h2 _ h3 =>
  simp_all
variable [DecidableEq α]
def PG:List (α×AV)->α->Option AV
 | [],_=>none
 |(k',a)::r,k=>if k'=k then some a else PG r k
def yZ:List (α×AV)->α->AV->List (α×AV)
 | [],k,v=>[(k,v)]
 |(k',a)::r,k,v=>if k'=k then(k,v)::r else(k',a)::yZ r k v
def aIa:List (α×AV)->α->List (α×AV)
 | [],_=>[]
 |(k',a)::r,k=>if k'=k then r else(k',a)::aIa r k
theorem T1{w:World}{I:Nat->Prop}{ι:kY}{H:aH}(κ:KeyKind α)(k:α):∀(l:List (α×AV)) (g:List MapEntry) (i:Nat),g.length=l.length->(∀(i:Nat) (p:α×AV),l[i]?=some p->∃e,g[i]?=some e/\e.key=κ.val p.1/\VRel w I ι H e.val p.2) ->
  (Instr.findNow κ.d (κ.val k) g i=some none/\PG l k=none/\∀v,yZ l k v=l++[(k,v)]) \/
  ∃j e a,Instr.findNow κ.d (κ.val k) g i=some (some (i+j,e.val))/\g[j]?=some e/\e.key=κ.val k/\PG l k=some a/\VRel w I ι H e.val a/\l[j]?=some (k,a)/\(∀v,yZ l k v=l.set j (k,v))/\aIa l k=l.eraseIdx j
 | [],[],i,_,_=>.inl ⟨rfl,rfl,fun _=>rfl⟩
 | (n,a)::l,e::g,i,hl,x=>by
  obtain ⟨e0,C,m,B⟩:=x 0 (n,a) rfl;cases C;obtain ⟨r,h,d⟩:=MapKept.sameNow_of_keys (κ.is k) (show MapKept.IsKey κ.d e.key by rw[m];exact κ.is n);by_cases f:n=k
  ·subst f;have t:r=true:=d.2 m.symm;subst t;exact .inr ⟨0,e,a,by simp[Instr.findNow,h],rfl,m,by simp[PG],B,rfl,fun v=>by simp[yZ],by simp[aIa]⟩
  have s:r=false:=by
   cases r with
   |false=>rfl
   |true=>exact absurd (κ.inj _ _ ((d.1 rfl).trans m)).symm f
  subst s;rcases T1 κ k l g (i+1) (by simp_all) (fun i p y=>x (i+1) p y)with⟨o,u,q⟩|⟨j,E,F,o,u,q,D,G,h6,A,z⟩
  ·exact .inl ⟨by simp[Instr.findNow,h,o],by simp[PG,f,u],fun v=>by simp[yZ,f,q]⟩
  exact .inr ⟨j+1,E,F,by simp[Instr.findNow,h,o];omega,by simp_all,q,by simp[PG,f,D],G,by simp_all,fun v=>by simp[yZ,f,A],by simp[aIa,f,z]⟩
section
variable{P:Program}{N:Nat}{o:Oper}{E:dG}{T kt et:TypeId}{x y z:Operand}{κ:KeyKind α}{l:List (α×AV)}{id g:Nat}{ob:Ob}{k:α}
theorem MV{zv:Value}{v0:AV}(u:o.op=.lookup T x y false)(A:P.underlying T=some (.map kt et))(hd:P.underlying kt=some κ.d)(O:aR E x=some (.mp id g))(s:H.get id=some ob)(Q:ob.g=g)
  (d:ob.rows=rM κ l) (G:aR E y=some (.pv (κ.pv k))) (S:∀w,(zeroValue et).run P w=.ok zv w) (D:ZV zv v0):cU P N o E H ((PG l k).getD v0) H :=
 .of_run fun a w I ι J t=>by
  obtain ⟨q,b,r,m⟩:=aFO (aJ t O) s Q;obtain ⟨R,C,e3,v⟩:=aFP (J.obj id ob s) q r d;have h:=aBG (aJ t G);rcases T1 κ k l R.toList 0 (by simpa using v.size) (fun i p U=>let ⟨e,q1,_,M⟩:=v.rel i p U;⟨e,by simp_all,M⟩)with⟨n,B,L⟩|⟨j,e,a',n,B,L,F,K,_⟩
  ·refine⟨zv,?_,by rw[B];exact D.rel⟩;simp only[execOp,u,m,h];simp[Instr.lookup,run_underlying A,MapKept.run_getObj_map C,MapKept.run_checkKey hd (κ.is k),MapKept.run_findKey hd n,S]
  refine⟨e.val,?_,by rw[F];exact K⟩;simp only[execOp,u,m,h];simp[Instr.lookup,run_underlying A,MapKept.run_getObj_map C,MapKept.run_checkKey hd (κ.is k),MapKept.run_findKey hd n]
theorem O3{v:AV}{H2:aH}(C:o.op=.mapUpdate T x y z\/o.op=.insert T x y z)(hT:P.underlying T=some (.map kt et))(hd:P.underlying kt=some κ.d)(hx:aR E x=some (.mp id g))(X:H.get id=some ob)(hg:ob.g=g)
  (hty:ob.ty=l.length) (s:ob.rows=rM κ l) (hy:aR E y=some (.pv (κ.pv k))) (hz:aR E z=some v) (V:H.set id {ob with ty:=(yZ l k v).length,rows:=rM κ (yZ l k v)}=H2):cU P N o E H .any H2:=by
 intro a w I ι _ _ hr he K Q J;obtain ⟨r,b,G,D⟩:=aFO (aJ he hx) X hg;obtain ⟨R,A,e3,n⟩:=aFP (hr.obj id ob X) r G s;rw[hty]at A;have B:=aBG (aJ he hy);have L:=aJ he hz;subst V;have O:∀t,(Instr.mapUpdate T (a.eval x) (a.eval y) (a.eval z)).run P w=.ok () (World.setObj w b (.map t (yZ l k v).length))->MapAt w I ι H κ (yZ l k v) t->o.wpW P a w K Q:=by
  intro t q hm;obtain ⟨k2,k3⟩:=Rel.remap (H':=H.set id {ob with ty:=(yZ l k v).length,rows:=rM κ (yZ l k v)}) (ob':={ob with ty:=(yZ l k v).length,rows:=rM κ (yZ l k v)}) hr X G r A rfl r rfl rfl hm (aH.get_set_same _ _ _) (fun j u=>aH.get_set_other _ _ u);unfold Oper.wpW execOp;rcases C with C|C
  ·simp only[C,Sem.run_bind,q,Result.andThen_ok,Sem.run_pure];exact J _ _ I ι _ _ ⟨rfl,rfl⟩ (.any _) k2 k3
  simp only[C,Sem.run_bind,q,Result.andThen_ok,Sem.run_pure];exact J _ _ I ι _ _ ⟨rfl,rfl⟩ (.any _) k2 k3
 rcases T1 κ k l R.toList 0 (by simpa using n.size) (fun i p f=>let ⟨e,U,_,q3⟩:=n.rel i p f;⟨e,by simp_all,q3⟩)with⟨Y,h2,F⟩|⟨j,e,a',Y,h2,F,h4,h5,h6,S,h8⟩
 ·refine O (R.push {key:=κ.val k,val:=a.eval z,born:=l.length}) ?_ ⟨?_,?_⟩
  ·simp[Instr.mapUpdate,D,B,run_underlying hT,MapKept.run_getObj_map A,MapKept.run_checkKey hd (κ.is k),MapKept.run_findKey hd Y,MapKept.run_setObj_map _ A,World.setObj,F]
  ·rw[F];simp[n.size]
  intro i p f;rw[F]at f;by_cases hi:i<l.length
  ·rw[List.getElem?_append_left hi]at f;obtain ⟨e,U,q2⟩:=n.rel i p f
   grind
  rw[List.getElem?_append_right (by omega)]at f;cases M:i - l.length with
  |zero =>
   rw[M]at f;cases f;exact⟨_,by rw[Array.getElem?_push,aQD (by rw[n.size];omega)],by show l.length=i;omega,rfl,L⟩
  |succ m=>rw[M]at f;simp at f
 have u:R[j]?=some e:=by simpa using h2
 have Z:j<R.size:=(Array.getElem?_eq_some_iff.1 u).1;have W:(yZ l k v).length=l.length:=by rw[S];simp
 refine O (R.modify j fun e=>{e with key:=κ.val k,val:=a.eval z}) ?_ ⟨?_,?_⟩
 ·simp[Instr.mapUpdate,D,B,run_underlying hT,MapKept.run_getObj_map A,MapKept.run_checkKey hd (κ.is k),MapKept.run_findKey hd Y,u,F,MapKept.run_keyThatStays (κ.is k),MapKept.run_setObj_map _ A,World.setObj,W]
 ·rw[S];simp[n.size]
 intro i p f;rw[S]at f;by_cases e:i=j
 ·subst e;rw[List.getElem?_set_self (by rw[<-n.size];exact Z)]at f;cases f;exact⟨{e with key:=κ.val k,val:=a.eval z},by rw[Array.getElem?_modify,aQD rfl,u];rfl,(n.born u).1,rfl,L⟩
 rw[List.getElem?_set_ne (Ne.symm e)]at f;obtain ⟨e',U,q2⟩:=n.rel i p f;exact⟨e',by rw[Array.getElem?_modify,aQC (Ne.symm e)];exact U,q2⟩
theorem Rel.placeX{cap:Nat}{x:Obj}(n:Rel I ι H w)(G:w'.os=w.os)(q:w'.tape=w.tape)(D:w'.output=w.output)(hw:w'.heap=w.heap.push x)
  (hold:∀o,H.get id=some o->o.g<ob'.g)
  (F:w'.heap[w.heap.size]?=some x->¬ I w.heap.size->(∀v a,VRel w I ι H v a->VRel w' I (fun j=>if j=id then some (w.heap.size,cap)else ι j) H' v a)->lP w' I (fun j=>if j=id then some (w.heap.size,cap)else ι j) H' id ob')
  (Q:H'.get id=some ob') (u:∀j,j≠id->H'.get j=H.get j) :
  Rel I (fun j=>if j=id then some (w.heap.size,cap)else ι j) H' w'/\Step I ι H w I (fun j=>if j=id then some (w.heap.size,cap)else ι j) H' w':=by
 have A:w'.heap[w.heap.size]?=some x:=by simp_all
 have b:∀x,x<w.heap.size->w'.heap[x]?=w.heap[x]?:=fun x s=>by grind
 have hsize:w'.heap.size=w.heap.size+1:=by simp_all
 have m:Step I ι H w I (fun j=>if j=id then some (w.heap.size,cap)else ι j) H' w':=by
  refine⟨G,q,D,by omega,fun a M _=>?_,fun _ h=>h,fun _ h=>.inl h,?_,fun x s _=>b x s,?_⟩
  ·simp[World.frozen?,b a.block M]
  ·rintro x ⟨j,o,c,p,i⟩;by_cases e:j=id
   ·simp only[e,if_true]at i;cases i;exact .inr (aQK _)
   simp only[e,if_false]at i;exact .inl ⟨j,o,c,(u j e).symm.trans p,i⟩
  grind
 refine⟨⟨fun x s=>by have:=n.imm x s;omega,?_,?_,m.glob n⟩,m⟩
 ·intro j o p;by_cases e:j=id
  ·subst e;rw[Q]at p;cases p;exact F A (fun O=>Nat.lt_irrefl _ (n.imm _ O)) (fun v a J=>J.mono n m)
  rw[u j e]at p;exact(n.obj j o p).keep (by simp[e]) (fun x c _ s=>⟨b x s,fun h=>h⟩) (fun r _ a _ v J=>J.mono n m)
 intro j C o L x c K p B i f;by_cases e:j=id<;>by_cases t:C=id
 ·rw[e,t]
 ·simp only[e,if_true]at i;simp only[t,if_false]at f;cases i;have:=n.lt ⟨C,L,K,(u C t).symm.trans B,f⟩;exact absurd this (Nat.lt_irrefl _)
 ·simp only[e,if_false]at i;simp only[t,if_true]at f;cases f;have:=n.lt ⟨j,o,c,(u j e).symm.trans p,i⟩;exact absurd this (Nat.lt_irrefl _)
 simp only[e,if_false]at i;simp only[t,if_false]at f;exact n.inj j C o L x c K ((u j e).symm.trans p) ((u C t).symm.trans B) i f
theorem Rel.placeM(i:Rel I ι H w)(e:w'.os=w.os)(a:w'.tape=w.tape)(c:w'.output=w.output)(n:w'.heap=w.heap.push (.map #[] 0))
  (b:∀o,H.get id=some o->o.g<ob'.g) (d:ob'.sz=0) (hty:ob'.ty=0) (hrows:ob'.rows=[]) (f:H'.get id=some ob') (m:∀j,j≠id->H'.get j=H.get j) :
  Rel I (fun j=>if j=id then some (w.heap.size,0)else ι j) H' w'/\Step I ι H w I (fun j=>if j=id then some (w.heap.size,0)else ι j) H' w' :=
 i.placeX e a c n b (fun hnew h _=>.inr (.inl ⟨d,w.heap.size,#[],by simp,by simp_all,h,by simp_all,by simp,by simp,by simp_all⟩)) f m
theorem aIi{I}{ι}{w}{id gg}(c:Rel I ι H w)(b:∀o,H.get id=some o->o.g<gg):
  ∃a,VRel (w.alloc (.map #[] 0)) I a ((id,⟨gg,0,0,[]⟩)::H) (.map (some w.heap.size)) (.mp id gg)/\Rel I a ((id,⟨gg,0,0,[]⟩)::H) (w.alloc (.map #[] 0))/\Step I ι H w I a ((id,⟨gg,0,0,[]⟩)::H) (w.alloc (.map #[] 0)):=by
 obtain ⟨d,f⟩:=Rel.placeM (ob':=⟨gg,0,0,[]⟩) (w':=w.alloc _) c rfl rfl rfl rfl b rfl rfl rfl (get_cons_same _ _ _) (fun j e=>get_cons_other _ _ e);exact⟨_,.mp _ (get_cons_same _ _ _) (aQK _) rfl fun _=>⟨rfl,w.heap.size,by simp,rfl⟩,d,f⟩
theorem CA{α}(κ:KeyKind α)(b:o.op=.makeMap T none)(hid:H.get id=none):cU P N o E H (.mp id 0) ((id,⟨0,0,([]:List (α×AV)).length,rM κ []⟩)::H):=by intro a w I ι _ _ h he K Q d;obtain ⟨ι',e,c,f⟩:=aIi (id:=id) h (fun o b=>by simp_all);unfold Oper.wpW execOp;simp[b,Instr.makeMap,Option.map_none,Sem.run_bind,run_newObj,Sem.run_pure,Result.andThen_ok];exact d _ _ I _ _ _ ⟨rfl,rfl⟩ e c f
theorem JD{v}{b}(f:o.op=.mapUpdate T x y z\/o.op=.insert T x y z)(i:P.underlying T=some (.map kt et))(hd:P.underlying kt=some κ.d)(j:aR E x=some (.mp id g))(e:H.get id=some ob)(d:ob.g=g)
  (c:ob.ty=l.length) (a:ob.rows=rM κ l) (h:aR E y=some (.pv (κ.pv k))) (n:aR E z=some v) (m:yZ l k v=b):cU P N o E H .any ((id,⟨g,ob.sz,b.length,rM κ b⟩)::H):=by
 subst d m;exact(O3 f i hd j e rfl c a h n rfl).congr (uV _ _ _)
end
end
end
section
section
variable{P:Program}{N:Nat}{o:Oper}{E:dG}{f:Operand}{args:Array Operand}{at_:Array TypeId}{F:FuncId}{fn:Func}{e:Array Value->Sem Value}{vs:List AV}{r:AV}
def aJ8(P:Program)(e:Array Value->Sem Value)(H:aH)(vs:List AV)(r:AV):Prop :=∀(w:World) (I:Nat->Prop) (ι:kY) (cs:Array Value),cs.size=vs.length->(∀(i:Nat) (v:Value) (a:AV),cs[i]?=some v->vs[i]?=some a->VRel w I ι H v a)->∃c,(e cs).run P w=.ok c w/\VRel w I ι H c r
theorem KV(p:o.op=.call {callee:=.value f,args:=args,argTypes:=at_})(x:aR E f=some (.pv (.fn F)))(s:P.funcs[F]?=some fn)(g:(fn.name == "runtime.NumGoroutine")=false)
  (k:fn.body.isNone=true) (q:Extern.findNext fn=none) (u:Extern.find fn=some e) (n:xM E args.toList=some vs) (h:aJ8 P e H vs r):cU P N o E H r H :=
 .of_run fun a w I z hr m=>by
  have l:=(aJ m x).fn_inv;obtain ⟨h1,y⟩:=nT m (mJ n);obtain ⟨c,t,j⟩:=h w I z (args.map a.eval) (by simp_all) (fun i v b n k=>y i v b (by simp_all) k);refine⟨c,?_,j⟩;unfold execOp;simp only[p,resolve,l,Deferred.ofValue,Sem.run_bind,Sem.run_pure,Result.andThen_ok,invoke,Array.empty_append,Array.append_empty,run_callFunc_extern s g k q u,t]
theorem U9{w}{I}{ι}{H}{x y}{cs}(b:cs.size=[x,y].length)(h:∀(i:Nat) (v) (a),cs[i]?=some v->[x,y][i]?=some a->VRel w I ι H v a):∃u v,cs=#[u,v]/\VRel w I ι H u x/\VRel w I ι H v y:=by
 obtain ⟨l⟩:=cs
 match l,b with
 | [u,v],_=>exact⟨u,v,rfl,h 0 u x rfl rfl,h 1 v y rfl rfl⟩
theorem PK(s)(c):aJ8 P Extern.BytealgIndexByte.indexByte H [.pv (.str s),.pv (.int .u8 c)] (.pv (.int .i64 (Lib.indexByte s.data.toList c.toNat.toUInt8))):=by intro w I ι cs b h;obtain ⟨u,v,rfl,d,g⟩:=U9 b h;rw[d.str_inv,g.int_inv];exact⟨_,Lib.run_indexByteString s c w,.pv (.int _ _)⟩
end
theorem jW{P}{G0}{N}{ops}{K}{E:dG}{H}{l}{t:Tmp}{v}(hb:E.get t=some v)(h:AL P G0 N ops K l ((t,v)::E) H):AL P G0 N ops K l E H:=by
 intro G c a w d;refine h G c a w (cX.sub (fun k u b=>?_) G c N a w d);by_cases e:t=k
 ·subst e;rw[dG.get_cons_same]at b
  grind
 rwa [dG.get_cons_other _ _ e]at b
end
end Go.Abs
namespace Go.Proofs.YtmdicgjnmfolfaaGreatDoor
open Go.Proofs.Tryz
open Go.Abs
variable{c n k:Nat}{p:Nat->Bool}{α:Type}
theorem xO(s:ByteArray)(c:Int)(H:aH):aI Tryz.prog 180 [.pv (.str s),.pv (.int .u8 c)] H (fun r H'=>r=.pv (.int .i64 (Lib.indexByte s.data.toList c.toNat.toUInt8))/\H'=H):=by refine Pu ?_;exact Bd func180 rfl ntmps180<|Sr<|Dd aM<|Zz<|Sr<|Dd aE<|Dd aE<|Dd (by exact KV rfl rfl func214 rfl rfl rfl rfl rfl (PK s c))<|Dd aM<|Zz<|aB<|Rt<|Qq
theorem qG(s:ByteArray)(c:Int)(H:aH):aI Tryz.prog 140 [.pv (.str s),.pv (.int .u8 c)] H (fun r H'=>r=.pv (.int .i64 (Lib.indexByte s.data.toList c.toNat.toUInt8))/\H'=H):=by refine Pu ?_;exact Bd func140 rfl ntmps140<|Sr<|Dd aM<|Zz<|Sr<|Dd aE<|Dd aE<|Dd (by exact aA rfl rfl aPO rfl (xO s c _))<|Dd aM<|Zz<|aB<|Rt<|Qq
abbrev aKb:ByteArray:=⟨#[32,9,10]⟩
abbrev aOc:ByteArray:=⟨#[59,44,46,58,40,41,123,125,91,93,61,60,62,47,45]⟩
def aAI(s:ByteArray)(n:Int):Bool:=decide (0<=Lib.indexByte s.data.toList n.toNat.toUInt8)
def sT(n:Int):Bool:=(decide (97<=n)&&decide (n<=122))||(decide (65<=n)&&decide (n<=90))
def BG(n:Int):Bool:=decide (48<=n)&&decide (n<=57)
def DU(n:Int):Int:=if sT n then 3 else if BG n then 4 else if aAI aKb n then 1 else if aAI aOc n then 6 else 0
def CV(n:Int):Int:=if n=34 then 7 else if n=95 then 5 else if n=35 then 2 else DU n
def oP(c:Nat):List AV:=(List.range 256).map fun(i:Nat)=>.pv (.int .u8 (if i<c then DU i else 0))
def tI:List AV:=(List.range 256).map fun(i:Nat)=>.pv (.int .u8 (CV i))
theorem jH(c:Nat):(oP c).length=256:=by simp[oP]
theorem rY(hc:c<256){v:Int}(hv:DU c=v):(oP c).set c (.pv (.int .u8 v))=oP (c+1):=by
 apply List.ext_getElem
 ·simp[oP]
 intro i h1 h2;simp only[oP,aQE,List.length_range]at h2;rw[List.getElem_set]
 split
 ·next e=>subst e;simp[oP,hv]
 next e=>simp only[oP,List.getElem_map,List.getElem_range];congr 2;by_cases h:i<c<;>by_cases h':i<c+1<;>simp[h,h']<;>omega
theorem X0(hc:c<256)(hv:DU c=0):oP c=oP (c+1):=by
 rw[<-rY hc hv];apply List.ext_getElem
 ·simp
 intro i h1 h2;rw[List.getElem_set]
 split
 ·next e=>subst e;simp[oP]
 rfl
theorem XZ:List.replicate 256 (.pv (.int .u8 0))=oP 0:=by kernel_rfl
theorem X1:(((oP 256).set 35 (.pv (.int .u8 2))).set 95 (.pv (.int .u8 5))).set 34 (.pv (.int .u8 7))=tI:=by kernel_rfl
theorem aAW{m:Nat}(h:m<256):tI[m]?=some (.pv (.int .u8 (CV m))):=by simp[tI,h]
theorem nH(c:Nat)(H:aH):∀r∈[oP c],∀a∈r,Clo H a:=by intro r hr a ha;rw[aQH]at hr;subst hr;obtain ⟨i,_,rfl⟩:=List.mem_map.1 ha;simp
theorem XY(H:aH):Clo H (.agg tI):=by rw[UA];intro a ha;obtain ⟨i,_,rfl⟩:=List.mem_map.1 ha;simp
theorem aA8:eN Tryz.prog 158 (List.replicate 256 (.pv (.int .u8 0))):=⟨_,.agg (List.replicate 256 (.pv (.int .u8 0))),zeroValue158,.inl (by kernel_rfl),rfl⟩
theorem R4 (H:aH):aI Tryz.prog 123 [] H (fun r H'=>r=.agg tI/\H'=H):=by
  refine Pu ?_;refine Bd func123 rfl ntmps123<|Sr<|Dd (by exact bU (id:=0) rfl aA8 rfl rfl)<|Zz<|Sr<|Dd (by exact bU (id:=1) rfl aA8 rfl rfl)<|Zz<|Sq<|Sr<|Dd aE<|Zz<|aF ?_;rw[XZ];refine bJ (σ:=Nat) (fun c=>([(0,.ref 0 0 0 0),(1,.ref 1 0 0 0),(4,iv (c:Int))],[(1,bx 256 158 (oP c)),(0,bx 256 158 (oP 0))])) (fun c=>c<=256) (fun c=>256 - c) 0 (by omega) ?_ ?_
  · exact(cX.wk (Ea<|Ea<|Eb<|trivial) (Hc (nH _ _)<|Hc (nH _ _)<|trivial) trivial)
  · intro c hc
    refine Sr<|Dd cW<|Zz<|Sq ?_;refine Cn ?_ ?_<;>intro hc1
    · have hlt:c<256:=by have:=aQA hc1;omega
      refine aC<|Sq<|aF<|Sr<|Dd aE<|Dd aM<|Zz<|Sr<|Dd aE<|Dd (by exact iH rfl underlying3 fW rfl (by exact wu8 (by omega) (by omega)))<|Dd aM<|Zz<|aF<|Sq<|Sq ?_;refine aY (t:=9) (n:=8) (X:=decide (97<=(c:Int))&&decide ((c:Int)<=122)) ?_ ?_
      · all_goals refine Dd aE ?_
        all_goals refine Dd G9<|Dm ?_
        all_goals refine Sp 12 (fun h12=>?_) fun h12=>?_
        all_goals try contradiction
        all_goals first|refine Fo<|Fo ?_|refine On aE<|On G9 ?_
        all_goals refine Dd cH<|Da ?_
        all_goals(exact⟨⟨_,rfl,by(simp only[*,Zo];done)⟩,rfl,rfl,rfl⟩)
      refine Cn ?_ ?_<;>intro hc2
      · have hv:DU c=3:=by rw[DU,sT,hc2];rfl
        refine aC ?_;refine Cn ?_ ?_<;>intro hc3
        · skip
          refine Rg<|Dd aE<|Dd (by exact eJ (k2:=c) rfl fP cM rfl rfl rfl rfl (by omega) (by exact aQP _) (by omega) (by omega))<|Uu (by exact bG rfl cM rfl rfl rfl rfl rfl rfl (by rw[jH];omega) (rY hlt hv) rfl)<|Zz<|Rg<|Dd mV<|Dd aE<|Zz ?_;exact⟨c+1,by omega,by omega,(cX.wk (Ea<|Ea<|Eb<|trivial) (Hc (nH _ _)<|Hc (nH _ _)<|trivial) trivial)⟩
        · rw[hc2]at hc3;cases hc3
      · skip
        refine aY (t:=9) (n:=8) (X:=decide (65<=(c:Int))&&decide ((c:Int)<=90)) ?_ ?_
        · all_goals refine Dd aE ?_
          all_goals refine Dd G9<|Dm ?_
          all_goals refine Sp 18 (fun h18=>?_) fun h18=>?_
          all_goals try contradiction
          all_goals first|refine Fo<|Fo ?_|refine On aE<|On G9 ?_
          all_goals refine Dd cH<|Da ?_
          all_goals(exact⟨⟨_,rfl,by(simp only[*,Zo];done)⟩,rfl,rfl,rfl⟩)
        refine Cn ?_ ?_<;>intro hc4
        · have hv:DU c=3:=by rw[DU,sT,hc2,hc4];rfl
          refine Rg<|Dd aE<|Dd (by exact eJ (k2:=c) rfl fP cM rfl rfl rfl rfl (by omega) (by exact aQP _) (by omega) (by omega))<|Uu (by exact bG rfl cM rfl rfl rfl rfl rfl rfl (by rw[jH];omega) (rY hlt hv) rfl)<|Zz<|Rg<|Dd mV<|Dd aE<|Zz ?_;exact⟨c+1,by omega,by omega,(cX.wk (Ea<|Ea<|Eb<|trivial) (Hc (nH _ _)<|Hc (nH _ _)<|trivial) trivial)⟩
        · skip
          refine Sq ?_;refine aY (t:=24) (n:=8) (X:=decide (48<=(c:Int))&&decide ((c:Int)<=57)) ?_ ?_
          · all_goals refine Dd aE ?_
            all_goals refine Dd G9<|Dm ?_
            all_goals refine Sp 27 (fun h27=>?_) fun h27=>?_
            all_goals try contradiction
            all_goals first|refine Fo<|Fo ?_|refine On aE<|On G9 ?_
            all_goals refine Dd cH<|Da ?_
            all_goals(exact⟨⟨_,rfl,by(simp only[*,Zo];done)⟩,rfl,rfl,rfl⟩)
          refine Cn ?_ ?_<;>intro hc5
          · have hv:DU c=4:=by rw[DU,sT,hc2,hc4,BG,hc5];rfl
            refine Rg<|Dd aE<|Dd (by exact eJ (k2:=c) rfl fP cM rfl rfl rfl rfl (by omega) (by exact aQP _) (by omega) (by omega))<|Uu (by exact bG rfl cM rfl rfl rfl rfl rfl rfl (by rw[jH];omega) (rY hlt hv) rfl)<|Zz<|Rg<|Dd mV<|Dd aE<|Zz ?_;exact⟨c+1,by omega,by omega,(cX.wk (Ea<|Ea<|Eb<|trivial) (Hc (nH _ _)<|Hc (nH _ _)<|trivial) trivial)⟩
          · skip
            refine Sr<|Dd aE<|Dd (by exact aA rfl rfl yH rfl (qG _ _ _))<|Dd D7<|Da ?_;refine Cn ?_ ?_<;>intro hc6
            · have hv:DU c=1:=by rw[DU,sT,hc2,hc4,BG,hc5,aAI,hc6];rfl
              refine Rg<|Dd aE<|Dd (by exact eJ (k2:=c) rfl fP cM rfl rfl rfl rfl (by omega) (by exact aQP _) (by omega) (by omega))<|Uu (by exact bG rfl cM rfl rfl rfl rfl rfl rfl (by rw[jH];omega) (rY hlt hv) rfl)<|Zz<|Rg<|Dd mV<|Dd aE<|Zz ?_;exact⟨c+1,by omega,by omega,(cX.wk (Ea<|Ea<|Eb<|trivial) (Hc (nH _ _)<|Hc (nH _ _)<|trivial) trivial)⟩
            · skip
              refine Sr<|Dd aE<|Dd (by exact aA rfl rfl yH rfl (qG _ _ _))<|Dd D7<|Da ?_;refine Cn ?_ ?_<;>intro hc7
              · have hv:DU c=6:=by rw[DU,sT,hc2,hc4,BG,hc5,aAI,hc6,aAI,hc7];rfl
                refine Rg<|Dd aE<|Dd (by exact eJ (k2:=c) rfl fP cM rfl rfl rfl rfl (by omega) (by exact aQP _) (by omega) (by omega))<|Uu (by exact bG rfl cM rfl rfl rfl rfl rfl rfl (by rw[jH];omega) (rY hlt hv) rfl)<|Zz<|Rg<|Dd mV<|Dd aE<|Zz ?_;exact⟨c+1,by omega,by omega,(cX.wk (Ea<|Ea<|Eb<|trivial) (Hc (nH _ _)<|Hc (nH _ _)<|trivial) trivial)⟩
              · have hv:DU c=0:=by rw[DU,sT,hc2,hc4,BG,hc5,aAI,hc6,aAI,hc7];rfl
                refine aC<|Rg<|Dd mV<|Dd aE<|Zz ?_;rw[X0 hlt hv];exact⟨c+1,by omega,by omega,(cX.wk (Ea<|Ea<|Eb<|trivial) (Hc (nH _ _)<|Hc (nH _ _)<|trivial) trivial)⟩
    · have : c = 256 := by have : ¬ ((c : Int)<256) := by simpa using hc1
                           omega
      subst this;refine aW<|Sr<|Dd (by exact eJ (k2:=35) rfl fP cM rfl rfl rfl rfl (by omega) rfl (by omega) rfl)<|Uu (by exact bG rfl cM rfl rfl rfl rfl rfl rfl (by simp[jH]) rfl rfl)<|Dd (by exact eJ (k2:=95) rfl fP cM rfl rfl rfl rfl (by omega) rfl (by omega) rfl)<|Uu (by exact bG rfl cM rfl rfl rfl rfl rfl rfl (by simp[jH]) rfl rfl)<|Dd (by exact eJ (k2:=34) rfl fP cM rfl rfl rfl rfl (by omega) rfl (by omega) rfl)<|Uu (by exact bG rfl cM rfl rfl rfl rfl rfl rfl (by simp[jH]) rfl rfl)<|Zz<|Sr<|Dd (by exact aN rfl aOA yB rfl rfl rfl rfl (show List.take 256 (List.drop 0 _)=tI by rw[<-X1];rfl) rfl)<|Uu (jN yB)<|Zz<|aB ?_;refine dV (H':=[]) (.inr rfl) rfl (eA rfl aOA yB rfl rfl rfl (show List.take 256 (List.drop 0 tI)=tI by rfl) rfl) (Fin.wk (by exact XY _) trivial trivial) ?_;exact Qq
abbrev sNil:ByteArray:=⟨#[]⟩
theorem DL(s:ByteArray)(k:Nat):0<=cR s k:=by unfold cR;omega
theorem DM(s:ByteArray)(k:Nat):(cR s k).toNat<256:=by
 unfold cR;have:=(((s.data.toList[k]?).getD 0)).toNat_lt
 simpa using this
theorem aJz(s:ByteArray)(k:Nat):tI[(cR s k).toNat]?=some (.pv (.int .u8 (CV (cR s k)))):=by rw[aAW (DM s k),Int.toNat_of_nonneg (DL s k)]
theorem iX(H:aH):∀r∈[tI],∀a∈r,Clo H a:=by intro r hr a ha;rw[aQH]at hr;subst hr;have:=XY H;rw[UA]at this;exact this a ha
def PU(s:ByteArray)(k:Nat):Bool:=!decide (CV (cR s k)=3)&&(decide ((k:Int)=0)||(!decide (CV (cR s k)=4)&&!decide (CV (cR s k)=5)))
def bT(s:ByteArray):Bool:=!((List.range s.size).any (PU s))&&(!decide (s=sNil)&&decide ((s.size:Int)<=24))
theorem yS(h:∀j,j<n->p j=false):(List.range n).any p=false:=by rw[List.any_eq_false];intro x hx;rw[h x (List.mem_range.1 hx)];simp
theorem uZ(hk:k<n)(h:p k=true):(List.range n).any p=true:=List.any_eq_true.2 ⟨k,List.mem_range.2 hk,h⟩
theorem AR(s:ByteArray)(H:aH)(hs:s.size<4611686018427387904):aI Tryz.prog 70 [sv s] H (fun r H'=>r=bv (bT s)/\H'=H):=by
 refine Pu ?_;refine Bd func70 rfl ntmps70<|Sr<|Dd aM<|Zz<|Sr<|Dd (by exact aA rfl rfl call123 rfl (R4 _))<|Dd (by exact bU (id:=3) rfl aA8 rfl rfl)<|Uu (by exact cO rfl yB rfl rfl rfl rfl rfl rfl rfl (by simp))<|Zz<|Sq<|Sr<|Dd aE<|Dd (kG underlying9)<|Dd aE<|Zz<|aF ?_;refine bJ (σ:=Nat) (fun k=>([(0,sv s),(3,.ref 3 0 0 0),(8,iv (s.size:Int)),(9,iv (k:Int))],[(3,bx 256 158 tI)])) (fun k=>k<=s.size/\∀j,j<k->PU s j=false) (fun k=>s.size - k) 0 ⟨by omega,by omega⟩ ?_ ?_
 ·exact(cX.wk (Eb<|Ea<|Eb<|Eb<|trivial) (Hc (iX _)<|trivial) trivial)
 rintro k ⟨hk,hno⟩;refine Sr<|Dd cW<|Zz<|Sq ?_;refine Cn ?_ ?_<;>intro hc1
 ·have hlt:k<s.size:=by have:=aQA hc1;omega
  refine aC<|Sq<|aF<|Sr<|Dd aE<|Dd aM<|Zz<|Sr<|Dd aE<|Dd aE<|Dd (by exact dK rfl underlying9 rfl rfl (by omega) (by exact aQP _) (by omega) rfl)<|Dd (by exact eJ (m:=(cR s k).toNat) (k2:=(cR s k).toNat) rfl fP cM rfl rfl rfl rfl (DL s k) rfl (DM s k) (by omega))<|Dd (by exact aK rfl BT rfl rfl rfl rfl (aJz s k))<|Dd aM<|Zz<|Sq ?_;refine aY (t:=30) (n:=17) (X:=PU s k) ?_ ?_
  ·all_goals refine Dd aE ?_
   all_goals refine Dd wM<|Dm ?_
   all_goals refine Sp 19 (fun h19=>?_) fun h19=>?_
   all_goals try contradiction
   all_goals first|refine Fo<|Fo<|Fo ?_|refine On aE<|On cN<|On aE ?_
   all_goals(first|refine Sp 22 (fun h22=>?_) fun h22=>?_|refine jW (t:=22) rfl ?_)
   all_goals try contradiction
   all_goals first|refine Fo ?_|refine Fu ?_|refine On aE ?_
   all_goals first|refine Fo ?_|refine Fu ?_|refine On wM ?_
   all_goals first|refine Fo ?_|refine Fu ?_|refine On aE ?_
   all_goals(first|refine Sp 25 (fun h25=>?_) fun h25=>?_|refine jW (t:=25) rfl ?_)
   all_goals try contradiction
   all_goals first|refine Fo ?_|refine Fu ?_|refine On aE ?_
   all_goals first|refine Fo ?_|refine Fu ?_|refine On wM ?_
   all_goals first|refine Fo ?_|refine Fu ?_|refine On cH ?_
   all_goals first|refine Fo ?_|refine On cH ?_
   all_goals refine Dd cH<|Zz ?_
   all_goals(exact⟨⟨_,rfl,by(simp only[PU, *];rfl)⟩,rfl,rfl,rfl⟩)
  refine Cn ?_ ?_<;>intro hc2
  ·refine Sr<|Dd aM<|Zz<|aB<|Rt ?_;exact⟨by rw[bT,uZ hlt hc2];rfl,rfl⟩
  refine aC<|Rg<|Dd mV<|Dd aE<|Zz ?_;refine⟨k+1,⟨by omega,fun j hj=>?_⟩,by omega,(cX.wk (Eb<|Ea<|Eb<|Eb<|trivial) (Hc (iX _)<|trivial) trivial)⟩;by_cases e:j=k
  ·subst e;exact hc2
  exact hno j (by omega)
 have hge:k=s.size:=by have:=aQB hc1;omega
 refine aW<|Sq ?_;refine aY (t:=2) (n:=9) (X:=!decide (s=sNil)&&decide ((s.size:Int)<=24)) ?_ ?_
 ·all_goals refine Dd aE ?_
  all_goals refine Dd JI<|Dm ?_
  all_goals refine Sp 34 (fun h34=>?_) fun h34=>?_
  all_goals try contradiction
  all_goals first|refine Fo<|Fo<|Fo ?_|refine On aE<|On (kG underlying9)<|On G9 ?_
  all_goals refine Dd cH<|Da ?_
  all_goals(exact⟨⟨_,rfl,by(simp only[PU, *];rfl)⟩,rfl,rfl,rfl⟩)
 refine aB<|Rt ?_;subst hge;exact⟨by rw[bT,yS hno];rfl,rfl⟩
def iQ{α:Type}(f:α->ByteArray)(l:List α):Nat->ByteArray
 |0=>sNil
 |k+1=>((l[k]?).map f).getD sNil
def sle(a b:ByteArray):Bool:=wH a b||decide (a=b)
def A7(last:ByteArray)(t:GTag):Bool:=!bT t.key||sle t.key last||decide (t.val=sNil)||decide (200<(t.val.size:Int))
def N8{α:Type}(p:ByteArray->α->Bool)(f:α->ByteArray)(l:List α)(k:Nat):Bool:=match l[k]? with
 |some t=>p (iQ f l k) t
 |none=>false
theorem A8{p:ByteArray->α->Bool}{f:α->ByteArray}{l:List α}{t:α}(h:l[k]?=some t):N8 p f l k=p (iQ f l k) t:=by rw[N8,h]
theorem xJ{f:α->ByteArray}{l:List α}{t:α}(h:l[k]?=some t):iQ f l (k+1)=f t:=by rw[iQ,h];rfl
def qY(l:List GTag):Bool:=!((List.range l.length).any (N8 A7 GTag.key l))&&decide ((l.length:Int)<=60)
def HW(l:List GTag):Prop:=l.length<4611686018427387904/\∀t∈l,t.key.size<4611686018427387904/\t.val.size<4611686018427387904
theorem AB(l:List GTag)(H:aH)(hl:HW l):aI Tryz.prog 261 [.pv (rR l)] H (fun r H'=>r=bv (qY l)/\H'=H):=by
 refine Pu ?_;obtain ⟨hl,hks⟩:=hl;have hml:(l.map bQ).length=l.length:=aQE _;refine Bd func261 rfl ntmps261<|Sr<|Dd aM<|Zz<|Sr<|Dd aM<|Zz<|Sq<|Sr<|Dd aE<|Dd (fM cZ)<|Dd aE<|Zz<|aF ?_;refine bJ (σ:=Nat) (fun k=>([(0,.pv (rR l)),(3,sv (iQ GTag.key l k)),(6,.pv (rR l)),(7,iv ((l.map bQ).length:Int)),(8,iv (k:Int))],[])) (fun k=>k<=l.length/\∀j,j<k->N8 A7 GTag.key l j=false) (fun k=>l.length - k) 0 ⟨by omega,by omega⟩ ?_ ?_
 ·exact Wk
 rintro k ⟨hk,hno⟩;refine Sr<|Dd cW<|Zz<|Sq ?_;refine Cn ?_ ?_<;>intro hc1
 ·have hlt:k<l.length:=by have:=aQA hc1;omega
  obtain ⟨t,ht⟩:=aU hlt;have hi:=cI (f:=bQ) ht;have hkt:=hks t (aQO ht);refine aC<|Sq<|aF<|Sr<|Dd (mR kH)<|Dd (by exact dP rfl uI kJ rfl (by omega) (by simp only[Zl,bQ,bW];rfl) rfl)<|Dd (by exact bU (id:=5) rfl aJa rfl rfl)<|Uu (jN kJ)<|Zz<|Sq<|Sq ?_;refine aY (t:=32) (n:=24) (X:=A7 (iQ GTag.key l k) t) ?_ ?_
  ·all_goals refine Dd (aT nG) ?_
   all_goals refine Dd (bF isAgg9)<|Dd (by exact aA rfl rfl pH rfl (AR t.key _ hkt.1))<|Dd iS<|Dm ?_
   all_goals refine Sp 16 (fun h16=>?_) fun h16=>?_
   all_goals try contradiction
   all_goals first|refine Fo<|Fo<|Fo<|Fo ?_|refine On (aT nG)<|On (bF isAgg9)<|On aE<|On (by exact aFC rfl rfl rfl) ?_
   all_goals refine Dd cH<|Dm ?_
   all_goals refine Sp 22 (fun h22=>?_) fun h22=>?_
   all_goals try contradiction
   all_goals first|refine Fo<|Fo<|Fo ?_|refine On (aT oF)<|On (bF isAgg9)<|On AG ?_
   all_goals refine Dd cH<|Dm ?_
   all_goals refine Sp 27 (fun h27=>?_) fun h27=>?_
   all_goals try contradiction
   all_goals first|refine Fo<|Fo<|Fo<|Fo ?_|refine On (aT oF)<|On (bF isAgg9)<|On (kG underlying9)<|On iG ?_
   all_goals refine Dd cH<|Zz ?_
   all_goals(exact⟨⟨_,rfl,by(simp only[A7,sle, *];rfl)⟩,rfl,rfl,rfl⟩)
  refine Cn ?_ ?_<;>intro hc2
  ·refine Sr<|Dd aM<|Zz<|aB<|Rt ?_;exact⟨by rw[qY,uZ hlt ((A8 ht).trans hc2)];rfl,rfl⟩
  refine aC<|Rg<|Dd (aT nG)<|Dd (bF isAgg9)<|Dd aM<|Zz<|Rg<|Dd mV<|Dd aE<|Zz ?_;refine⟨k+1,⟨by omega,fun j hj=>?_⟩,by omega,?_⟩
  ·by_cases e:j=k
   ·subst e;exact(A8 ht).trans hc2
   exact hno j (by omega)
  rw[xJ ht];exact Wk
 have hge:k=l.length:=by have:=aQB hc1;omega
 subst hge;refine aW<|Sr<|Dd aE<|Dd (fM cZ)<|Dd G9<|Dd aM<|Zz<|aB<|Rt ?_;exact⟨by rw[qY,yS hno,<-hml];rfl,rfl⟩
end Go.Proofs.YtmdicgjnmfolfaaGreatDoor
namespace Go.Abs
section
section
variable{P:Program}{N:Nat}{o:Oper}{E:dG}{H:aH}{T:TypeId}{x y z:Operand}
theorem O7{e}{b}{s}{n}{m}{l}{v}(A:o.op=.index T x y)(D:P.underlying T=some (.array b e))(p:∀w,(sizeOf e).run P w=.ok 1 w)(r:∀w,(isAgg e).run P w=.ok false w)
  (C:aR E x=some (.agg l)) (F:aR E y=some (.pv (.int s n))) (G:0<=n) (u:n.toNat=m) (hi:m<b) (k:l[m]?=some v):cU P N o E H v H :=
 .of_run fun a w I ι hr g=>by
  have h:=aJ g C;have B:=(aJ g F).int_inv;generalize q:a.eval x=c at h;cases h with
  | @agg i _ hl h1 J =>
   have d:m<i.size:=by grind
   have j:=Array.getElem?_eq_getElem d;refine⟨i[m],?_,J m _ v j k⟩;have t:n<b:=by omega
   simp[execOp,A,q,B];simp[Instr.index,run_underlying D,asIntOf,G,t,p,u,part,r,j]
def DR(l:List ByteArray):List (ByteArray×AV):=l.map fun s=>(s,.pv (.bool true))
def inB(l:List ByteArray)(s:ByteArray):Bool:=l.any fun a=>decide (a=s)
def LX(l:List ByteArray)(s:ByteArray):List ByteArray:=if inB l s then l else l++[s]
theorem aEX(l)(s):(PG (DR l) s).getD (.pv (.bool false))=.pv (.bool (inB l s)):=by
 induction l with
 |nil=>rfl
 |cons a l b =>
  by_cases h:a=s
  ·subst h;simp[DR,PG,inB]
  simp[DR,List.map_cons,PG,h,if_false,inB,List.any_cons,decide_false,Bool.false_or]at b |-;exact b
theorem aEW(l)(s):yZ (DR l) s (.pv (.bool true))=DR (LX l s):=by
 induction l with
 |nil=>rfl
 | cons a l b =>
  by_cases h:a=s
  ·subst h;simp[DR,yZ,LX,inB]
  have e:LX (a::l) s=a::LX l s:=by
   unfold LX inB
   grind
  rw[e];show yZ ((a,.pv _)::DR l) s _=(a,.pv _)::DR _;rw[yZ,aQC h,b]
theorem tQ{c b}{l}{id g}{ob}{s}{zv}(e:o.op=.lookup T x y false)(i:P.underlying T=some (.map c b))(hd:P.underlying c=some .string)(j:aR E x=some (.mp id g))(f:H.get id=some ob)(k:ob.g=g)
  (a:ob.rows=rM aCI (DR l)) (h:aR E y=some (.pv (.str s))) (d:∀w,(zeroValue b).run P w=.ok zv w) (m:ZV zv (.pv (.bool false))):cU P N o E H (.pv (.bool (inB l s))) H:=by
 rw[<-aEX];exact MV e i hd j f k a h d m
theorem PY{d h}{l}{id g}{ob}{s}(f:o.op=.mapUpdate T x y z\/o.op=.insert T x y z)(j:P.underlying T=some (.map d h))(hd:P.underlying d=some .string)(k:aR E x=some (.mp id g))(e:H.get id=some ob)(n:ob.g=g)
  (c:ob.ty=(DR l).length) (b:ob.rows=rM aCI (DR l)) (i:aR E y=some (.pv (.str s))) (m:aR E z=some (.pv (.bool true))):cU P N o E H .any ((id,⟨g,ob.sz,(DR (LX l s)).length,rM aCI (DR (LX l s))⟩)::H) :=
 JD f j hd k e n c b i m (aEW l s)
abbrev sob(l:List ByteArray):Ob:=⟨0,0,(DR l).length,rM aCI (DR l)⟩
end
end
end Go.Abs
namespace Go.Proofs.YtmdicgjnmfolfaaGreatDoor
open Go.Proofs.Tryz
open Go.Abs
variable{k:Int}{p:Nat->Bool}{n B:Nat}
def eP(k:Int):ByteArray:=if k=1 then⟨#[110,111,100,101]⟩else if k=2 then⟨#[119,97,121]⟩else if k=3 then⟨#[97,114,101,97]⟩else if k=4 then⟨#[114,111,117,116,101]⟩else if k=5 then⟨#[116,117,114,110]⟩else sNil
abbrev aHL:List AV:=[sv sNil,sv ⟨#[110,111,100,101]⟩,sv ⟨#[119,97,121]⟩,sv ⟨#[97,114,101,97]⟩,sv ⟨#[114,111,117,116,101]⟩,sv ⟨#[116,117,114,110]⟩]
theorem six(h0:0<=k)(h1:k<6):k=0\/k=1\/k=2\/k=3\/k=4\/k=5:=by omega
theorem aHK(h0:0<=k)(h1:k<6):aHL[k.toNat]?=some (sv (eP k)):=by rcases six h0 h1 with rfl|rfl|rfl|rfl|rfl|rfl<;>rfl
theorem EC(k:Int)(H:aH):aI Tryz.prog 230 [iv k] H (fun r H'=>r=sv (eP k)/\H'=H):=by
 refine Pu ?_;refine Bd func230 rfl ntmps230<|Sr<|Dd aM<|Zz<|Sr<|Dd (by exact wQ rfl aNv rfl rfl)<|Dd (by exact bU (id:=3) rfl aMX rfl rfl)<|Uu (jN sizeOf269)<|Zz<|Sq<|Sq ?_;refine aY (t:=10) (n:=7) (X:=decide (k<0)||decide (6<=k)) ?_ ?_
 ·all_goals refine Dd aE ?_
  all_goals refine Dd cW<|Dm ?_
  all_goals refine Sp 7 (fun h7=>?_) fun h7=>?_
  all_goals try contradiction
  all_goals first|refine Fo<|Fo ?_|refine On aE<|On D7 ?_
  all_goals refine Dd cH<|Zz ?_
  all_goals(exact⟨⟨_,rfl,by(simp only[*,Zo];done)⟩,rfl,rfl,rfl⟩)
 refine Cn ?_ ?_<;>intro hc1
 ·have hn:¬ (k=1)/\¬ (k=2)/\¬ (k=3)/\¬ (k=4)/\¬ (k=5):=by
   simp only[Bool.or_eq_true,aQL]at hc1;omega
  refine Sr<|Dd aM<|Zz<|aB<|Rt ?_;exact⟨by simp only[eP,hn.1,hn.2.1,hn.2.2.1,hn.2.2.2.1,hn.2.2.2.2,if_false],rfl⟩
 have hb:0<=k/\k<6:=by
  simp only[aQ0,aQM]at hc1;omega
 exact aC<|Sr<|Dd aE<|Dd (by exact eJ (m:=k.toNat) (k2:=k.toNat) rfl underlying269 sizeOf9 rfl rfl rfl rfl hb.1 rfl (by omega) (by omega))<|Dd (by exact aK rfl isAgg9 rfl rfl rfl rfl (aHK hb.1 hb.2))<|Dd aM<|Zz<|aB<|Rt<|Qq
def CL(k:Int):Int:=if k=2 then 2 else if k=3 then 3 else if k=4 then 1 else if k=5 then 3 else 0
theorem aF3(h0:0<=k)(h1:k<6):[iv 0,iv 0,iv 2,iv 3,iv 1,iv 3][k.toNat]?=some (iv (CL k)):=by rcases six h0 h1 with rfl|rfl|rfl|rfl|rfl|rfl<;>rfl
theorem aBX(k:Int)(H:aH)(h0:0<=k)(h1:k<6):aI Tryz.prog 262 [iv k] H (fun r H'=>r=iv (CL k)/\H'=H):=by refine Pu ?_;exact Bd func262 rfl ntmps262<|Sr<|Dd aM<|Zz<|Sr<|Dd (by exact wQ rfl aNu rfl rfl)<|Dd aE<|Dd (by exact O7 (m:=k.toNat) rfl underlying280 sizeOf3 isAgg3 rfl rfl h0 rfl (by omega) (aF3 h0 h1))<|Dd aM<|Zz<|aB<|Rt<|Qq
def TZ(x y:Int):Bool:=((decide (0<=x)&&decide (x<1048576))&&decide (0<=y))&&decide (y<1048576)
theorem aOr(x y:Int)(H:aH):aI Tryz.prog 264 [.agg [iv x,iv y]] H (fun r H'=>r=bv (TZ x y)/\H'=H):=by
 refine Pu ?_;refine Bd func264 rfl ntmps264<|Sr<|Dd (by exact cF (id:=1) rfl rfl rfl rfl rfl)<|Dd aM<|Zz<|Sq ?_;refine aY (t:=2) (n:=22) (X:=TZ x y) ?_ ?_
 ·all_goals refine Dd (aT pR) ?_
  all_goals refine Dd (bF isAgg3)<|Dd D7<|Dm ?_
  all_goals refine Sp 6 (fun h6=>?_) fun h6=>?_
  all_goals try contradiction
  all_goals first|refine Fo<|Fo<|Fo ?_|refine On (aT pR)<|On (bF isAgg3)<|On cW ?_
  all_goals refine Dd cH<|Dm ?_
  all_goals refine Sp 11 (fun h11=>?_) fun h11=>?_
  all_goals try contradiction
  all_goals first|refine Fo<|Fo<|Fo ?_|refine On (aT pQ)<|On (bF isAgg3)<|On D7 ?_
  all_goals refine Dd cH<|Dm ?_
  all_goals refine Sp 16 (fun h16=>?_) fun h16=>?_
  all_goals try contradiction
  all_goals first|refine Fo<|Fo<|Fo ?_|refine On (aT pQ)<|On (bF isAgg3)<|On cW ?_
  all_goals refine Dd cH<|Da ?_
  all_goals(exact⟨⟨_,rfl,by(simp only[TZ, *];rfl)⟩,rfl,rfl,rfl⟩)
 exact aB<|Rt<|Qq
def JS(p:Nat->Bool)(n:Nat):Int:=match (List.range n).find? p with|some k=>(k:Int)|none => -1
def BD(p:Nat->Bool)(n:Nat):Nat:=match (List.range n).find? p with|some k=>k+1|none=>n
theorem A3{k:Nat}(hk:k<n)(hp:p k=true)(hno:∀j,j<k->p j=false):(List.range n).find? p=some k:=by rw[List.find?_range_eq_some];exact⟨hp,by simpa using hk,fun j hj=>by simp[hno j hj]⟩
theorem A4(hno:∀j,j<n->p j=false):(List.range n).find? p=none:=by rw[List.find?_eq_none];intro x hx;simp[hno x (List.mem_range.1 hx)]
theorem aAF(fv:AV)(l:List ByteArray)(p:Nat->Bool)(Hs:Nat->aH)(hl:l.length<4611686018427387904)(hf:∀k s,l[k]?=some s->dN Tryz.prog fv [sv s] (Hs k) (fun r H'=>r=bv (p k)/\H'=Hs (k+1))):
  aI Tryz.prog 120 [.pv (aZ l),fv] (Hs 0) (fun r H'=>r=iv (JS p l.length)/\H'=Hs (BD p l.length)):=by
 have hml:(l.map encStr).length=l.length:=aQE _;refine Bd func120 rfl ntmps120<|Sr<|Dd aM<|Zz<|Sq<|Sr<|Dd aE<|Dd (fM aD)<|Dd aE<|Zz<|aF ?_;refine bJ (σ:=Nat) (fun k=>([(0,.pv (aZ l)),(1,fv),(7,iv ((l.map encStr).length:Int)),(8,iv (k:Int))],Hs k)) (fun k=>k<=l.length/\∀j,j<k->p j=false) (fun k=>l.length - k) 0 ⟨by omega,by omega⟩ ?_ ?_
 ·exact E0
 rintro k ⟨hk,hno⟩;refine Sr<|Dd cW<|Zz<|Sq ?_;refine Cn ?_ ?_<;>intro hc1
 ·have hlt:k<l.length:=by have:=aQA hc1;omega
  obtain ⟨s,hs⟩:=aU hlt;have hi:=cI (f:=encStr) hs;have hfo:=hf k s hs;refine aC<|Sq<|aF<|Sr<|Dd aE<|Dd aM<|Zz<|Sr<|Dd aE<|Dd aE<|Dd aE<|Dd (mR cC)<|Dd (iN isAgg9)<|Dd (by exact cY rfl rfl rfl (hfo))<|Zz ?_;refine Cn ?_ ?_<;>intro hc2
  ·refine Sr<|Dd aE<|Dd aM<|Zz<|aB ?_;exact dV (H':=Hs (k+1)) (.inr rfl) rfl (aX rfl) Fin.refl ⟨by rw[JS,A3 hlt hc2 hno],by rw[BD,A3 hlt hc2 hno]⟩
  refine aC<|Rg<|Dd mV<|Dd aE<|Zz ?_;refine⟨k+1,⟨by omega,fun j hj=>?_⟩,by omega,E0⟩;by_cases e:j=k
  ·subst e;exact hc2
  exact hno j (by omega)
 have hge:k=l.length:=by have:=aQB hc1;omega
 subst hge;refine aW<|Sr<|Dd aM<|Zz<|aB ?_;exact dV (H':=Hs l.length) (.inr rfl) rfl (aX rfl) Fin.refl ⟨by rw[JS,A4 hno],by rw[BD,A4 hno]⟩
theorem RP(p:Nat->Bool)(n:Nat):decide (0<=JS p n)=(List.range n).any p:=by
 unfold JS;cases h:(List.range n).find? p with
 | none =>
  have:(List.range n).any p=false:=by
   rw[List.find?_eq_none]at h;rw[List.any_eq_false];exact h
  simp[this]
 |some i =>
  have:(List.range n).any p=true:=List.any_eq_true.2 ⟨i,List.mem_of_find?_eq_some h,List.find?_some h⟩;simp[this]
theorem sI(fv:AV)(l:List ByteArray)(p:Nat->Bool)(Hs:Nat->aH)(hl:l.length<4611686018427387904)(hf:∀k s,l[k]?=some s->dN Tryz.prog fv [sv s] (Hs k) (fun r H'=>r=bv (p k)/\H'=Hs (k+1))):
  aI Tryz.prog 62 [.pv (aZ l),fv] (Hs 0) (fun r H'=>r=bv ((List.range l.length).any p)/\H'=Hs (BD p l.length)):=by
 refine Bd func62 rfl ntmps62<|Sr<|Dd aM<|Zz<|Sr<|Dd aE<|Dd aE<|Dd (by exact aA rfl rfl call120 rfl (aAF fv l p Hs hl hf))<|Dd D7<|Dd aM<|Zz<|aB ?_;exact dV (H':=Hs (BD p l.length)) (.inr rfl) rfl (aX rfl) Fin.refl ⟨by rw[RP],rfl⟩
theorem KL(L:List ByteArray)(H:aH):∀r∈(sob L).rows,∀a∈r,Clo H a:=by intro r hr a ha;obtain ⟨i,hi⟩:=aQZ.1 hr;obtain ⟨p,hp,rfl⟩:=H8.1 hi;simp only[DR,aQY]at hp;obtain ⟨q,_,rfl⟩:=Option.map_eq_some_iff.1 hp;simp only[aQQ,aQU,or_false]at ha;rcases ha with rfl|rfl|rfl<;>simp
def vH(o:GObj)(last:ByteArray)(L:List ByteArray):aH:=[(37,sob L),(4,bx 1 9 [sv last]),(3,bx 1 270 [.mp 37 0]),(1,bx 6 151 ((bW o).map .pv))]
theorem aKY(o:GObj)(a:ByteArray)(L:List ByteArray)(f:Nat):Clo (vH o a L) (.clo f [.ref 1 0 0 0,.ref 4 0 0 0,.ref 3 0 0 0]):=by refine .clo fun x hx=>?_;simp only[aQQ,aQU,or_false]at hx;rcases hx with rfl|rfl|rfl<;>exact .ref rfl
def NM(o:GObj)(last:ByteArray)(L:List ByteArray)(s:ByteArray):Bool:=(decide (o.kind=2)&&decide (s=last))||(decide (o.kind=3)&&inB L s)
def IJ(o:GObj)(last:ByteArray)(L:List ByteArray)(s:ByteArray):Bool:=NM o last L s||!bT s
theorem aDy(o:GObj)(last s:ByteArray)(L:List ByteArray)(hs:s.size<4611686018427387904):
  aI Tryz.prog 263 [sv s,.ref 1 0 0 0,.ref 4 0 0 0,.ref 3 0 0 0] (vH o last L) (fun r H'=>r=bv (IJ o last L s)/\H'=vH o s (LX L s)):=by
 unfold vH;refine Bd func263 rfl ntmps263<|Sr<|Dd aM<|Zz<|Sq ?_;refine aY (t:=6) (n:=22) (X:=NM o last L s) ?_ ?_
 ·all_goals refine Dd (aT eB) ?_
  all_goals refine Dd (bF isAgg3)<|Dd cN<|Dm ?_
  all_goals refine Sp 10 (fun h10=>?_) fun h10=>?_
  all_goals try contradiction
  all_goals first|refine Fo<|Fo<|Fo ?_|refine On aE<|On (bF isAgg9)<|On AG ?_
  all_goals refine Dd cH<|Dm ?_
  all_goals refine Sp 15 (fun h15=>?_) fun h15=>?_
  all_goals try contradiction
  all_goals first|refine Fo<|Fo<|Fo<|Fo ?_|refine On (aT eB)<|On (bF isAgg3)<|On cN<|On aE ?_
  all_goals(first|refine Sp 19 (fun h19=>?_) fun h19=>?_|refine jW (t:=19) rfl ?_)
  all_goals try contradiction
  all_goals first|refine Fo ?_|refine Fu ?_|refine On (bF isAgg270) ?_
  all_goals first|refine Fo ?_|refine Fu ?_|refine On aE ?_
  all_goals first|refine Fo ?_|refine Fu ?_|refine On (by exact tQ rfl pS underlying9 rfl rfl rfl rfl rfl nI (.inl rfl)) ?_
  all_goals first|refine Fo ?_|refine On cH ?_
  all_goals refine Dd cH<|Da ?_
  all_goals(exact⟨⟨_,rfl,by(simp only[NM, *];rfl)⟩,rfl,rfl,rfl⟩)
 refine Sr<|Dd (bF isAgg270)<|Dd aE<|Dd aE<|Uu (by exact PY (.inl rfl) pS underlying9 rfl rfl rfl rfl rfl rfl rfl)<|Uu (jN sizeOf9)<|Zz<|Sq ?_;refine aY (t:=5) (n:=8) (X:=NM o last L s||!bT s) ?_ ?_
 ·all_goals refine Dd aE ?_
  all_goals refine Dm ?_
  all_goals refine Sp 29 (fun h29=>?_) fun h29=>?_
  all_goals try contradiction
  all_goals first|refine Fo<|Fo<|Fo ?_|refine On aE<|On (by exact aA rfl rfl pH rfl (AR s _ hs))<|On iS ?_
  all_goals refine Dd cH<|Da ?_
  all_goals(exact⟨⟨_,rfl,by(simp only[*];rfl)⟩,rfl,rfl,rfl⟩)
 refine aB ?_;refine dV (H':=vH o s (LX L s)) (.inr rfl) rfl (aX rfl) (Fin.wk (by(simp;done)) (Hc (KL _ _)<|Hb<|Ha<|Hb<|trivial) ⟨rfl,rfl,rfl,rfl,trivial⟩) ?_;exact Qq
def yO(l:List ByteArray):Nat->List ByteArray
 |0=>[]
 |k+1=>LX (yO l k) ((l[k]?).getD sNil)
def qL(o:GObj)(k:Nat):Bool:=match o.refs[k]? with
 |some s=>IJ o (iQ id o.refs k) (yO o.refs k) s
 |none=>false
def NP(o:GObj):Bool:=if o.kind=1 then decide ((o.refs.length:Int)=0)&&TZ o.x o.y else if o.kind=5 then decide ((o.refs.length:Int)=3)&&(decide (o.x=0)&&decide (o.y=0))else decide (o.x=0)&&decide (o.y=0)
def tE(o:GObj)(n:Int):Bool:=decide (eP o.kind=sNil)||!bT o.id||!qY o.tags||decide (n<CL o.kind)||decide (2000<n)
def JU(o:GObj):Bool:=tE o (o.refs.length:Int)
def lV(o:GObj):Bool:=!JU o&&(!((List.range o.refs.length).any (qL o))&&NP o)
def okO(o:GObj):Prop:=o.id.size<4611686018427387904/\HW o.tags/\o.refs.length<4611686018427387904/\∀s∈o.refs,s.size<4611686018427387904
theorem yK(h:decide (eP k=sNil)=false):0<=k/\k<6:=by
 by_cases h0:0<=k/\k<6
 ·exact h0
 have:eP k=sNil:=by
  have hn:¬ (k=1)/\¬ (k=2)/\¬ (k=3)/\¬ (k=4)/\¬ (k=5):=by omega
  simp only[eP,hn.1,hn.2.1,hn.2.2.1,hn.2.2.2.1,hn.2.2.2.2,if_false]
 rw[this]at h;simp at h
theorem M4(o:GObj)(H:aH)(ho:okO o):aI Tryz.prog 233 [av (bW o)] H (fun r H'=>r=bv (lV o)/\H'=H):=by
 refine Pu ?_;obtain ⟨h1,h2,h3,h4⟩:=ho;have hml:(o.refs.map encStr).length=o.refs.length:=aQE _;refine Bd func233 rfl ntmps233<|Sr<|Dd (by exact cF (id:=1) rfl rfl rfl rfl rfl)<|Dd aM<|Zz<|Sq<|Sq ?_;refine nY (t:=36) (n:=31) (X:=tE o ((o.refs.map encStr).length:Int)) ?_ ?_
 ·cases hg10:(decide (eP o.kind=sNil):Bool)
  ·cases hg16:(!bT o.id:Bool)
   ·cases hg22:(!qY o.tags:Bool)
    ·cases hg31:(decide (((o.refs.map encStr).length:Int)<CL o.kind):Bool)
     ·refine aO follows<|Cq (aT eB)<|Cq (bF isAgg3)<|Cq (by exact aA rfl rfl yE rfl (EC o.kind _))<|Cq AG<|Cq aE<|Nf (aT oH)<|Nf (bF isAgg9)<|Nf (by exact aA rfl rfl pH rfl (AR o.id _ h1))<|Nf iS<|Cq oU<|Cq aE<|Nf (aT fB)<|Nf (bF cS)<|Nf (by exact aA rfl rfl aDa rfl (AB o.tags _ h2))<|Nf iS<|Cq oU<|Cq aE<|Nf (aT dT)<|Nf (bF aG)<|Nf (fM aD)<|Nf (aT eB)<|Nf (bF isAgg3)<|Nf (by exact aA rfl rfl call262 rfl (aBX o.kind _ (yK hg10).1 (yK hg10).2))<|Nf cW<|Cq oU<|Cq aE<|Nf (aT dT)<|Nf (bF aG)<|Nf (fM aD)<|Nf iG<|Cq oU<|bM<|Kr ?_;exact⟨rfl,⟨_,rfl,by(simp only[tE,hg10,hg16,hg22,hg31];rfl)⟩,rfl,rfl,rfl⟩
     refine aO follows<|Cq (aT eB)<|Cq (bF isAgg3)<|Cq (by exact aA rfl rfl yE rfl (EC o.kind _))<|Cq AG<|Cq aE<|Nf (aT oH)<|Nf (bF isAgg9)<|Nf (by exact aA rfl rfl pH rfl (AR o.id _ h1))<|Nf iS<|Cq oU<|Cq aE<|Nf (aT fB)<|Nf (bF cS)<|Nf (by exact aA rfl rfl aDa rfl (AB o.tags _ h2))<|Nf iS<|Cq oU<|Cq aE<|Nf (aT dT)<|Nf (bF aG)<|Nf (fM aD)<|Nf (aT eB)<|Nf (bF isAgg3)<|Nf (by exact aA rfl rfl call262 rfl (aBX o.kind _ (yK hg10).1 (yK hg10).2))<|Nf cW<|Cq oU<|Cq aE<|Of<|Of<|Of<|Of<|Cq yT<|bM<|Kr ?_;exact⟨rfl,⟨_,rfl,by(simp only[tE,hg10,hg16,hg22,hg31];rfl)⟩,rfl,rfl,rfl⟩
    refine aO follows<|Cq (aT eB)<|Cq (bF isAgg3)<|Cq (by exact aA rfl rfl yE rfl (EC o.kind _))<|Cq AG<|Cq aE<|Nf (aT oH)<|Nf (bF isAgg9)<|Nf (by exact aA rfl rfl pH rfl (AR o.id _ h1))<|Nf iS<|Cq oU<|Cq aE<|Nf (aT fB)<|Nf (bF cS)<|Nf (by exact aA rfl rfl aDa rfl (AB o.tags _ h2))<|Nf iS<|Cq oU<|Cq aE<|Of<|Of<|Of<|Of<|Of<|Of<|Of<|Cq yT<|Cq aE<|Of<|Of<|Of<|Of<|Cq cH<|bM<|Kr ?_;exact⟨rfl,⟨_,rfl,by(simp only[tE, *];rfl)⟩,rfl,rfl,rfl⟩
   refine aO follows<|Cq (aT eB)<|Cq (bF isAgg3)<|Cq (by exact aA rfl rfl yE rfl (EC o.kind _))<|Cq AG<|Cq aE<|Nf (aT oH)<|Nf (bF isAgg9)<|Nf (by exact aA rfl rfl pH rfl (AR o.id _ h1))<|Nf iS<|Cq oU<|Cq aE<|Of<|Of<|Of<|Of<|Cq yT<|Cq aE<|Of<|Of<|Of<|Of<|Of<|Of<|Of<|Cq cH<|Cq aE<|Of<|Of<|Of<|Of<|Cq cH<|bM<|Kr ?_;exact⟨rfl,⟨_,rfl,by(simp only[tE, *];rfl)⟩,rfl,rfl,rfl⟩
  refine aO follows<|Cq (aT eB)<|Cq (bF isAgg3)<|Cq (by exact aA rfl rfl yE rfl (EC o.kind _))<|Cq AG<|Cq aE<|Of<|Of<|Of<|Of<|Cq yT<|Cq aE<|Of<|Of<|Of<|Of<|Cq cH<|Cq aE<|Of<|Of<|Of<|Of<|Of<|Of<|Of<|Cq cH<|Cq aE<|Of<|Of<|Of<|Of<|Cq cH<|bM<|Kr ?_;exact⟨rfl,⟨_,rfl,by(simp only[tE, *];rfl)⟩,rfl,rfl,rfl⟩
 refine Cn ?_ ?_<;>intro hc1
 ·refine Sr<|Dd aM<|Zz<|aB<|Rt ?_;exact⟨by rw[lV,JU,<-hml,hc1];rfl,rfl⟩
 refine aC<|Sr<|Dd (by exact CA (id:=37) aCI rfl rfl)<|Dd (by exact bU (id:=3) rfl aMW rfl rfl)<|Uu (jN sizeOf270)<|Zz<|Sr<|Dd (by exact bU (id:=4) rfl zo9 rfl rfl)<|Uu (jN sizeOf9)<|Zz ?_;refine aA0 ([(1,.ref 1 0 0 0),(5,.clo 263 [.ref 1 0 0 0,.ref 4 0 0 0,.ref 3 0 0 0])]) (vH o sNil []) ?_ ?_
 ·refine Rg<|Dd (by exact gR rfl rfl)<|Da ?_;exact(cX.wk (Ea<|Ec (aKY _ _ _ _)<|trivial) (Hc (KL _ _)<|Hb<|Ha<|Hb<|trivial) trivial)
 refine Sq<|Sr<|Dd (aT dT)<|Dd (bF aG)<|Dd aE<|Dd (by exact aA rfl rfl US rfl (sI _ o.refs (qL o) (fun k=>vH o (iQ id o.refs k) (yO o.refs k)) h3 (fun k s hk=>dN.clo call263 (by rw[qL,hk,xJ hk];simp only[yO,hk];exact aDy o _ s _ (h4 s (aQO hk))))))<|Zz ?_;refine Cn ?_ ?_<;>intro hc2
 ·refine Sr<|Dd aM<|Zz<|aB<|Rt ?_;exact⟨by rw[lV,hc2];simp,rfl⟩
 have hfin:lV o=NP o:=by have h:=hc1;rw[hml]at h;rw[lV,JU,h,hc2];rfl
 rw[hfin];clear hfin;generalize iQ id o.refs (BD (qL o) o.refs.length)=la;generalize yO o.refs (BD (qL o) o.refs.length)=LL;unfold vH;refine aC<|Sq<|Sr<|Dd (aT eB)<|Dd (bF isAgg3)<|Zz<|aF<|Sr<|Dd cN<|Da ?_;refine Cn ?_ ?_<;>intro hc3
 ·refine Sq ?_;refine aY (t:=2) (n:=11) (X:=decide (((o.refs.map encStr).length:Int)=0)&&TZ o.x o.y) ?_ ?_
  ·all_goals refine Dd (aT dT) ?_
   all_goals refine Dd (bF aG)<|Dd (fM aD)<|Dd cN<|Dm ?_
   all_goals refine Sp 51 (fun h51=>?_) fun h51=>?_
   all_goals try contradiction
   all_goals first|refine Fo<|Fo<|Fo ?_|refine On (aT mI)<|On (by exact aN rfl dS sizeOf68 rfl rfl rfl rfl (by simp only[Zl,bQ,bW];rfl) rfl)<|On (by exact aA rfl rfl call264 rfl (aOr o.x o.y _)) ?_
   all_goals refine Dd cH<|Da ?_
   all_goals(exact⟨⟨_,rfl,by(simp_all;done)⟩,rfl,rfl,rfl⟩)
  refine aB<|Rt ?_;exact⟨by rw[NP,aQD (aQA hc3),<-hml],rfl⟩
 refine Sr<|Dd cN<|Da ?_;refine Cn ?_ ?_<;>intro hc4
 ·refine Sq ?_;refine aY (t:=2) (n:=12) (X:=decide (((o.refs.map encStr).length:Int)=3)&&(decide (o.x=0)&&decide (o.y=0))) ?_ ?_
  ·all_goals refine Dd (aT dT) ?_
   all_goals refine Dd (bF aG)<|Dd (fM aD)<|Dd cN<|Dm ?_
   all_goals refine Sp 62 (fun h62=>?_) fun h62=>?_
   all_goals try contradiction
   all_goals first|refine Fo<|Fo<|Fo<|Fo ?_|refine On (aT mI)<|On (by exact aN rfl dS sizeOf68 rfl rfl rfl rfl (by simp only[Zl,bQ,bW];rfl) rfl)<|On (rJ X3)<|On (by exact yX rfl rfl rfl rfl rfl iF (SZ _ _ _ _)) ?_
   all_goals refine Dd cH<|Da ?_
   all_goals(exact⟨⟨_,rfl,by(simp_all;done)⟩,rfl,rfl,rfl⟩)
  refine aB<|Rt ?_;exact⟨by rw[NP,aQC (aQB hc3),aQD (aQA hc4),<-hml],rfl⟩
 refine aC<|Sr<|Dd (aT mI)<|Dd (by exact aN rfl dS sizeOf68 rfl rfl rfl rfl (by simp only[Zl,bQ,bW];rfl) rfl)<|Dd (rJ X3)<|Dd (by exact yX rfl rfl rfl rfl rfl iF (SZ _ _ _ _))<|Dd aM<|Zz<|aB<|Rt ?_;exact⟨by rw[NP,aQC (aQB hc3),aQC (aQB hc4)],rfl⟩
section
def OP(n:Int):Prop:=(Lit.int .i64 n).wf=true
theorem OP.bd{n:Int}(h:OP n): -9223372036854775808<=n/\n<=9223372036854775807:=by simpa[OP,Lit.wf,IntKind.min,IntKind.max,IntKind.signed,IntKind.bits]using h
def aEH(B:Nat)(t:GTag):Prop:=t.key.size<=B/\t.val.size<=B
def EH(B:Nat)(l:List ByteArray):Prop:=l.length<=B/\∀s,s∈l->s.size<=B
def YV(B:Nat)(l:List GTag):Prop:=l.length<=B/\∀s,s∈l->aEH B s
def aEI(B:Nat)(o:GObj):Prop:=o.id.size<=B/\OP o.kind/\OP o.x/\OP o.y/\EH B o.refs/\YV B o.tags
def SL(B:Nat)(e:GEdit):Prop:=OP e.op/\e.id.size<=B/\e.other.size<=B/\e.node.size<=B/\OP e.x/\OP e.y/\e.key.size<=B/\e.val.size<=B/\EH B e.refs/\aEI B e.obj
def aAq(B:Nat)(l:List GEdit):Prop:=l.length<=B/\∀e,e∈l->SL B e
section
variable{ps:List PV}
theorem IR(h:Sh Tryz.prog B (n+2) 22 ps):∃l,ps=[aZ l]/\EH B l:=by
 obtain ⟨l,rfl,h1,h2⟩:=KQ (f:=encStr) (good:=fun s=>s.size<=B) aD h (fun r hr=>by
  obtain ⟨s,rfl,hs⟩:=pL underlying9 hr;exact⟨s,rfl,hs⟩)
 exact⟨l,rfl,h1,h2⟩
theorem aNj(h:Sh Tryz.prog B (n+2) 199 ps):∃t,ps=bQ t/\aEH B t:=by obtain ⟨a,b,rfl,_,h1,a2,b2,rfl,_,h2,rfl⟩:=rS underlying199 h;obtain ⟨k,rfl,hk⟩:=pL underlying9 h1;obtain ⟨v,rfl,hv⟩:=pL underlying9 h2;exact⟨⟨k,v⟩,rfl,hk,hv⟩
theorem aLj(h:Sh Tryz.prog B (n+3) 149 ps):∃l,ps=[rR l]/\YV B l:=by obtain ⟨l,rfl,h1,h2⟩:=KQ (f:=bQ) (good:=aEH B) cZ h (fun r hr=>aNj hr);exact⟨l,rfl,h1,h2⟩
theorem T8(h:Sh Tryz.prog B (n+2) 68 ps):∃x y,ps=[.int .i64 x,.int .i64 y]/\OP x/\OP y:=by obtain ⟨a,b,rfl,_,h1,a2,b2,rfl,_,h2,rfl⟩:=rS underlying68 h;obtain ⟨x,rfl,hx⟩:=uT underlying3 h1;obtain ⟨y,rfl,hy⟩:=uT underlying3 h2;exact⟨x,y,rfl,hx,hy⟩
theorem aNn(h:Sh Tryz.prog B (n+4) 151 ps):∃o,ps=bW o/\aEI B o:=by obtain ⟨_,_,rfl,_,h1,_,_,rfl,_,h2,_,_,rfl,_,h3,_,_,rfl,_,h4,_,_,rfl,_,h5,rfl⟩:=rS jX h;obtain ⟨id,rfl,q1⟩:=pL underlying9 h1;obtain ⟨k,rfl,q2⟩:=uT underlying3 h2;obtain ⟨x,y,rfl,q3,q4⟩:=T8 h3;obtain ⟨rs,rfl,q5⟩:=IR h4;obtain ⟨ts,rfl,q6⟩:=aLj h5;exact⟨⟨id,k,x,y,rs,ts⟩,rfl,q1,q2,q3,q4,q5,q6⟩
end
theorem aCj{l:List GTag}(hB:B<4611686018427387904)(h:YV B l):HW l:=⟨by have:=h.1;omega,fun t ht=>⟨by have:=(h.2 t ht).1;omega,by have:=(h.2 t ht).2;omega⟩⟩
theorem aLM{o:GObj}(hB:B<4611686018427387904)(h:aEI B o):okO o :=⟨by have:=h.1;omega,aCj hB h.2.2.2.2.2,by have:=h.2.2.2.2.1.1;omega,fun s hs=>by have:=h.2.2.2.2.1.2 s hs;omega⟩
section
variable{ps:List PV}
theorem aNk(h:Sh Tryz.prog B (n+1) 9 ps):∃s,ps=[.str s]/\s.size<=B:=by obtain ⟨k,rfl,hk⟩:=pL underlying9 h;exact⟨k,rfl,hk⟩
end
end
end Go.Proofs.YtmdicgjnmfolfaaGreatDoor
namespace Go.Proofs.YtmdicgjnmfolfaaGreatDoor
open Go.Proofs.Tryz
open Go.Abs Go.ChangeShapes Go.WideShapes Go.ChangeAt Go.RowKit
variable{H:Type}{n:Nat}
theorem own:ownKnob Tryz.prog.godebug=none:=by kernel_rfl
theorem aBZ:laidOutB Tryz.prog=true:=by kernel_rfl
theorem YQ{l:List (DataW H)}(hk:Rows.uptoSmall H l=true):Rows.uptoBulkAll l<=1048576:=aQA hk
theorem aDT{l r:List (DataW H)}(h:Rows.uptoBulkAll (l++r)<=n):Rows.uptoBulkAll l<=n:=by
 induction l generalizing n with
 |nil=>simp[Rows.uptoBulkAll]
 |cons x l ih =>
  simp only[List.cons_append,Rows.uptoBulkAll]at h |-;have:=ih (n:=n - Rows.uptoBulk x) (by omega);omega
theorem aNo{B:Nat}{ps:List PV}(h:Sh Tryz.prog B (n+1) 3 ps):∃i,ps=[.int .i64 i]/\OP i:=by obtain ⟨i,rfl,hi⟩:=uT underlying3 h;exact⟨i,rfl,hi⟩
end Go.Proofs.YtmdicgjnmfolfaaGreatDoor
namespace Go.Proofs.YtmdicgjnmfolfaaGreatDoor
open Go.Proofs.Tryz
open Go.Abs
section
section
variable{B n:Nat}{ps:List PV}
theorem aLl(h:Sh Tryz.prog B (n+5) 153 ps):∃o,ps=bA o/\SL B o:=by obtain ⟨_,_,rfl,_,h1,_,_,rfl,_,h2,_,_,rfl,_,h3,_,_,rfl,_,h4,_,_,rfl,_,h5,_,_,rfl,_,h6,_,_,rfl,_,h7,_,_,rfl,_,h8,_,_,rfl,_,h9,rfl⟩:=rS fQ h;obtain ⟨op,rfl,q1⟩:=uT underlying3 h1;obtain ⟨id,rfl,q2⟩:=pL underlying9 h2;obtain ⟨ot,rfl,q3⟩:=pL underlying9 h3;obtain ⟨nd,rfl,q4⟩:=pL underlying9 h4;obtain ⟨x,y,rfl,q5,q6⟩:=T8 h5;obtain ⟨k,rfl,q7⟩:=pL underlying9 h6;obtain ⟨v,rfl,q8⟩:=pL underlying9 h7;obtain ⟨rs,rfl,q9⟩:=IR h8;obtain ⟨o,rfl,q10⟩:=aNn h9;exact⟨⟨op,id,ot,nd,x,y,k,v,rs,o⟩,rfl,q1,q2,q3,q4,q5,q6,q7,q8,q9,q10⟩
theorem aJF(h:Sh Tryz.prog B (n+6) 23 ps):∃l,ps=[iO l]/\aAq B l:=by obtain ⟨l,rfl,h1,h2⟩:=KQ (f:=bA) (good:=SL B) dB h (fun r hr=>aLl hr);exact⟨l,rfl,h1,h2⟩
end
end
end Go.Proofs.YtmdicgjnmfolfaaGreatDoor
namespace Go.Abs
theorem cX.get'{G0}{E E'}{H H'}(h:aGt E E')(a:∀j,H'.get j=H.get j):cX G0 E H E' H':=(cX.e0 h).trans (cX.get (fun _=>rfl) a)
theorem xE(id)(o o')(H:aH)(j):aH.get ((id,o)::H) j=aH.get ((id,o)::(id,o')::H) j:=by cases e:Nat.beq id j<;>simp[aH.get,e]
theorem cX.dup{G0}{E E'}{H:aH}{id}{o o'}(h:aGt E E'):cX G0 E ((id,o)::(id,o')::H) E' ((id,o)::H):=cX.get' h (xE _ o _ H)
theorem KB.app{D H G0}(b:∀p∈D,G0.get p.1=none):KB G0 H (D++H):=fun id a=>by
 rw[gD];cases e:D.get _ with
 |none=>rfl
 |some o =>
  have:=b _ (dZ e);rw[this]at a;cases a
theorem Fin.pops'{G0 H}{r}(D)(c:Clo H r)(e:eI H)(b:∀p∈D,H.get p.1=none)(d:∀p∈D,G0.get p.1=none):Fin G0 (D++H) r H r:=by intro G a I g w v i h f;subst a;exact⟨I,g,i.restrict (Sub.app b) e,h.restrict (Sub.app b) (KB.app d),f.restrict (Sub.app b) c⟩
end Go.Abs
namespace Go.Proofs.YtmdicgjnmfolfaaGreatDoor
open Go.Proofs.Tryz
open Go.Abs
variable{a b:ByteArray}
theorem rD:∀(x y:List UInt8),Op.bytesLess x y=decide (x<y)
 | [],[]=>by simp[Op.bytesLess]
 |_::_,[]=>by simp[Op.bytesLess]
 | [],_::_=>by simp[Op.bytesLess]
 |a::x,b::y=>by
  rw[Op.bytesLess,rD x y];simp only[List.cons_lt_cons_iff];by_cases h1:a<b<;>by_cases h2:a=b<;>by_cases h3:x<y<;>simp[h1,h2,h3]
theorem KN(s:ByteArray):wH s s=false:=by unfold wH;rw[rD];exact decide_eq_false (List.lt_irrefl _)
theorem KM(h1:wH a b=false)(h2:wH b a=false):a=b:=by
 unfold wH at h1 h2;rw[rD]at h1 h2;have e:a.toList=b.toList:=List.le_antisymm (List.not_lt.1 (aQB h2)) (List.not_lt.1 (aQB h1));have:=zA a b;rw[e]at this
 simpa using this.symm
theorem HL{c:ByteArray}(h1:wH a b=true)(h2:wH b c=true):wH a c=true:=by unfold wH at *;rw[rD]at *;exact decide_eq_true (List.lt_trans (aQA h1) (aQA h2))
theorem aAu(s:ByteArray):wH s sNil=false:=by unfold wH;rw[rD,ByteArray.toList_eq sNil];exact decide_eq_false (List.not_lt_nil _)
theorem KO:sle a b=false↔wH b a=true:=by
 unfold sle;constructor
 ·intro h;simp only[aQ0,aQM]at h;cases e:wH b a with
  |true=>rfl
  |false=>exact absurd (KM h.1 e) h.2
 intro h;simp only[aQ0,aQM];refine⟨?_,fun e=>?_⟩
 ·cases e:wH a b with
  |false=>rfl
  |true=>have:=HL e h;rw[KN]at this;cases this
 subst e;rw[KN]at h;cases h
theorem NO{s:ByteArray}(h:bT s=true):s≠sNil:=by simp only[bT,aQN,aQX,aQM]at h;exact h.2.1
theorem J6(fv:AV)(l:List GEdit)(p:GEdit->Bool)(H:aH)(hl:l.length<4611686018427387904)(hf:∀o,o∈l->dN Tryz.prog fv [.agg ((bA o).map .pv)] H (fun r H'=>r=.pv (.bool (p o))/\H'=H)):
    aI Tryz.prog 240 [.pv (.sl (l.map bA)),fv] H (fun r H'=>r=.pv (.int .i64 (xR p l))/\H'=H):=by
  refine Bd func240 rfl ntmps240<|Sr<|Dd aM<|Zz<|Sq<|Sr<|Dd aE<|Dd (fM dB)<|Dd aE<|Zz<|aF ?_;refine bJ (σ:=Nat) (fun k=>([(0,.pv (.sl (l.map bA))),(1,fv),(7,.pv (.int .i64 (l.map bA).length)),(8,.pv (.int .i64 (k:Int)))],H)) (fun k=>k<=l.length/\∀j,j<k->∀b,l[j]?=some b->p b=false) (fun k=>l.length - k) 0 ⟨by omega,by omega⟩ ?_ ?_
  · exact E0
  · rintro k ⟨hk,hno⟩
    refine Sr<|Dd cW<|Zz<|Sq ?_;refine Cn ?_ ?_<;>intro hc1
    · have hlt:k<l.length:=by simpa using hc1
      obtain ⟨o,ho⟩:=aU hlt;have hi:=cI (f:=bA) ho;have hfo:=hf o (aQO ho);refine aC<|Sq<|aF<|Sr<|Dd aE<|Dd aM<|Zz<|Sr<|Dd aE<|Dd aE<|Dd aE<|Dd (mR SQ)<|Dd (by exact dP rfl cE bC rfl (by omega) (by simp only[Zl,bA];rfl) rfl)<|Dd (by exact cY rfl rfl rfl (hfo))<|Zz ?_;refine Cn ?_ ?_<;>intro hc2
      · skip
        refine Sr<|Dd aE<|Dd aM<|Zz<|aB ?_;exact dV (H':=H) (.inr rfl) rfl (aX rfl) Fin.refl ⟨by rw[xR,RT hno ho hc2],rfl⟩
      · skip
        refine aC<|Rg<|Dd mV<|Dd aE<|Zz ?_;refine⟨k+1,⟨by omega,fun j hj b hb=>?_⟩,by omega,E0⟩;by_cases e:j=k
        · subst e;rw[ho]at hb;cases hb;exact hc2
        · exact hno j (by omega) b hb
    · have hge : k = l.length := by have : l.length <= k := by simpa using hc1
                                    omega
      subst hge;refine aW<|Sr<|Dd aM<|Zz<|aB ?_;exact dV (H':=H) (.inr rfl) rfl (aX rfl) Fin.refl ⟨by rw[xR,RU hno],rfl⟩
def aOw(id:ByteArray)(o:GObj):Bool:=decide (o.id=id)
def onP(x y:Int):Bool:=decide (0<=min x y)&&decide (max x y<1048576)
theorem EZ(fv:AV)(l:List GEdit)(p:GEdit->Bool)(H:aH)(hl:l.length<4611686018427387904)(hf:∀o,o∈l->dN Tryz.prog fv [.agg ((bA o).map .pv)] H (fun r H'=>r=.pv (.bool (p o))/\H'=H)):
  aI Tryz.prog 200 [.pv (.sl (l.map bA)),fv] H (fun r H'=>r=.pv (.bool (l.any p))/\H'=H):=by
 refine aI.body func200 rfl ntmps200 (aQR rfl) ?_;refine GW ?_;refine A9 ?_;refine aA4 rfl rfl rfl (by exact vD rfl rfl) ?_;refine aA3 ?_;refine GW ?_;refine A9 ?_;refine aA4 rfl rfl rfl (by exact gC rfl rfl) ?_;refine aA4 rfl rfl rfl (by exact gC rfl rfl) ?_;refine aA4 rfl rfl rfl (by exact aA rfl rfl call240 rfl (J6 fv l p H hl hf)) ?_;refine aA4 rfl rfl rfl (by exact lC rfl rfl rfl) ?_;refine aA4 rfl rfl rfl (by exact vD rfl rfl) ?_;refine aA3 ?_;refine aB ?_;exact dV (H':=H) (.inr rfl) rfl (aX rfl) Fin.refl ⟨by rw[aFq],rfl⟩
def tL(a b:GTag):Bool:=decide (a.key=b.key)&&decide (a.val=b.val)
def pK:List GTag->List GTag->Bool
 | [],[]=>true
 |a::l,b::r=>tL a b&&pK l r
 |_,_=>false
theorem P8(a b:GTag):tL a b=true↔a=b:=by cases a;cases b;simp[tL]
theorem P4:∀(a b:List GTag),a.length≠b.length->pK a b=false
 | [],[],h=>absurd rfl h
 | [],_::_,_=>rfl
 |_::_,[],_=>rfl
 |x::a,y::b,h=>by rw[pK,P4 a b (by simpa using h)];simp
theorem P5:∀(a b:List GTag) (k:Nat) (x y:GTag),a[k]?=some x->b[k]?=some y->tL x y=false->pK a b=false
 | [],_,k,x,y,h,_,_=>by simp at h
 |_::_,[],k,x,y,_,h,_=>by simp at h
 |u::a,v::b,0,x,y,h1,h2,h=>by cases h1;cases h2;rw[pK,h];rfl
 |u::a,v::b,k+1,x,y,h1,h2,h=>by rw[pK,P5 a b k x y h1 h2 h];simp
theorem LU:∀(a b:List GTag),a.length=b.length->(∀k,k<a.length->∀x y,a[k]?=some x->b[k]?=some y->tL x y=true)->pK a b=true
 | [],[],_,_=>rfl
 | [],_::_,h,_=>by simp at h
 |_::_,[],h,_=>by simp at h
 |u::a,v::b,hl,h=>by
  rw[pK,h 0 (by simp) u v rfl rfl,LU a b (by simpa using hl) (fun k hk x y h1 h2=>h (k+1) (by simpa using hk) x y h1 h2)];rfl
theorem XK (a b : List GTag) (H : aH) (ha : a.length < 4611686018427387904) :
    aI Tryz.prog 273 [lv (a.map bQ),lv (b.map bQ)] H (fun r H'=>r=bv (pK a b)/\H'=H):=by
  refine Pu ?_;refine Bd func273 rfl ntmps273<|Sr<|Dd aM<|Zz<|Sq<|Sr<|Dd aE<|Dd (fM cZ)<|Dd aE<|Dd (fM cZ)<|Dd wM<|Zz ?_;refine Cn ?_ ?_<;>intro hc1
  · have hne:a.length≠b.length:=by simp at hc1;omega
    refine Sr<|Dd aM<|Zz<|aB<|Rt ?_;exact⟨by rw[P4 a b hne],rfl⟩
  · have heq : a.length = b.length := by simp at hc1; omega
    refine aC<|Sq<|Sr<|Dd aE<|Dd (fM cZ)<|Dd aE<|Zz<|aF ?_;refine bJ (σ:=Nat) (fun k=>([(0,lv (a.map bQ)),(1,lv (b.map bQ)),(12,iv (a.map bQ).length),(13,iv (k:Int))],[])) (fun k=>k<=a.length/\∀j,j<k->∀x y,a[j]?=some x->b[j]?=some y->tL x y=true) (fun k=>a.length - k) 0 ⟨by omega,by omega⟩ ?_ ?_
    · exact E0
    · rintro k ⟨hk,hall⟩
      refine Sr<|Dd cW<|Zz<|Sq ?_;refine Cn ?_ ?_<;>intro hc2
      · have hlt:k<a.length:=by simpa using hc2
        obtain ⟨x,hx⟩:=aU hlt;obtain ⟨y,hy⟩:=aU (l:=b) (k:=k) (by omega);have hi:=cI (f:=bQ) hx;have hi2:=cI (f:=bQ) hy;refine aC<|Sq<|aF<|Sr<|Dd aE<|Dd aM<|Zz<|Sq<|aO follows<|Cq aE<|Cq aE<|Cq (mR kH)<|Cq (by exact dP rfl uI kJ rfl (by omega) (by simp only[Zl,bQ,bW,bA];rfl) rfl)<|Cq aE<|Cq aE<|Cq (mR kH)<|Cq (by exact dP rfl uI kJ rfl (by omega) (by simp only[Zl,bQ,bW,bA];rfl) rfl)<|Cq (by exact yW rfl rfl rfl rfl rfl eqGuardType199 (aJi _ _ _ _))<|bM<|Kr ?_;refine Cn ?_ ?_<;>intro hc3
        · have ht:tL x y=false:=by
            have h:(!tL x y)=true:=hc3
            simpa using h
          refine Sr<|Dd aM<|Zz<|aB<|Rt ?_;exact⟨by rw[P5 a b k x y hx hy ht],rfl⟩
        · have ht:tL x y=true:=by
            have h:(!tL x y)=false:=hc3
            simpa using h
          refine aC<|Rg<|Dd mV<|Dd aE<|Zz ?_;refine⟨k+1,⟨by omega,fun j hj x' y' h1 h2=>?_⟩,by omega,E0⟩;by_cases e:j=k
          · subst e;rw[hx]at h1;rw[hy]at h2;cases h1;cases h2;exact ht
          · exact hall j (by omega) x' y' h1 h2
      · have hge : k = a.length := by have : a.length <= k := by simpa using hc2
                                      omega
        subst hge;refine aW<|Sr<|Dd aM<|Zz<|aB<|Rt ?_;exact⟨by rw[LU a b heq hall],rfl⟩
def BF(n:Int)(s:ByteArray):Bool:=decide (n<(s.size:Int))
def aFU(n:Int)(t:GTag):Bool:=decide (n<IntKind.i64.wrap ((t.key.size:Int)+(t.val.size:Int)))
def aJn(o:GObj):Prop:=o.refs.length<4611686018427387904/\o.tags.length<4611686018427387904
def EB(o:GObj)(n:Int):Bool:=(BF 300 o.id||decide (n<(o.refs.length:Int))||decide (65<(o.tags.length:Int)))||o.refs.any (BF 300)||o.tags.any (aFU 600)
theorem aIw(o:GObj)(n:Int)(H:aH)(hok:aJn o):
  aI Tryz.prog 145 [av (bW o),iv n] H (fun r H'=>r=bv (!EB o n)/\H'=H):=by
 refine Pu ?_;have hrl:(o.refs.map encStr).length=o.refs.length:=aQE _;have htl:(o.tags.map bQ).length=o.tags.length:=aQE _;have h1:=hok.1;have h2:=hok.2;refine Bd func145 rfl ntmps145<|Sr<|Dd (by exact cF (id:=2) rfl rfl rfl rfl rfl)<|Dd aM<|Zz<|Sq<|Sq ?_;refine aY (t:=23) (n:=19) (X:=BF 300 o.id||decide (n<((o.refs.map encStr).length:Int))||decide (65<((o.tags.map bQ).length:Int))) ?_ ?_
 ·all_goals refine Dd (aT oH) ?_
  all_goals refine Dd (bF isAgg9)<|Dd (kG underlying9)<|Dd iG<|Dm ?_
  all_goals refine Sp 11 (fun h11=>?_) fun h11=>?_
  all_goals try contradiction
  all_goals first|refine Fo<|Fo<|Fo<|Fo<|Fo ?_|refine On (aT dT)<|On (bF aG)<|On (fM aD)<|On aE<|On iG ?_
  all_goals refine Dd cH<|Dm ?_
  all_goals refine Sp 18 (fun h18=>?_) fun h18=>?_
  all_goals try contradiction
  all_goals first|refine Fo<|Fo<|Fo<|Fo ?_|refine On (aT fB)<|On (bF cS)<|On (fM cZ)<|On iG ?_
  all_goals refine Dd cH<|Zz ?_
  all_goals(exact⟨⟨_,rfl,by first|(simp only[BF, *];rfl)|(simp_all[BF];done)|(simp_all[BF];omega)⟩,rfl,rfl,rfl⟩)
 refine Cn ?_ ?_<;>intro hc1
 ·rw[hrl,htl]at hc1;refine Sr<|Dd aM<|Zz<|aB<|Rt ?_;exact⟨by rw[EB,hc1];rfl,rfl⟩
 rw[hrl,htl]at hc1;have hb1:EB o n=(o.refs.any (BF 300)||o.tags.any (aFU 600)):=by rw[EB,hc1];rfl
 refine aC<|Sq<|Sr<|Dd aM<|Zz<|aF ?_;refine bJ (σ:=Nat) (fun q=>([(2,.ref 2 0 0 0),(5,iv (q:Int))],[(2,bx 6 151 ((bW o).map .pv))])) (fun q=>q<=o.refs.length/\∀j,j<q->∀b,o.refs[j]?=some b->BF 300 b=false) (fun q=>o.refs.length - q) 0 ⟨by omega,by omega⟩ ?_ ?_
 ·exact Wk
 rintro q ⟨hq,hnr⟩;refine Sq<|Sr<|Dd aE<|Dd (aT dT)<|Dd (bF aG)<|Dd (fM aD)<|Dd cW<|Zz ?_;refine Cn ?_ ?_<;>intro hc2
 ·have hlt2:q<o.refs.length:=by simpa using hc2
  obtain ⟨s,hs⟩:=aU hlt2;have hse:=cI (f:=encStr) hs;refine aC<|Sq<|aF<|Sr<|Dd (aT dT)<|Dd (bF aG)<|Dd aE<|Dd (mR cC)<|Dd (iN isAgg9)<|Dd (kG underlying9)<|Dd iG<|Zz ?_;refine Cn ?_ ?_<;>intro hc3
  ·have hbad:EB o n=true:=by rw[hb1,zN hs hc3];rfl
   refine Sr<|Dd aM<|Zz<|aB<|Rt ?_;exact⟨by rw[hbad];rfl,rfl⟩
  refine aC<|Rg<|Dd aE<|Dd mV<|Da ?_;exact⟨q+1,⟨by omega,vB hnr hs hc3⟩,by omega,Wk⟩
 have hge:q=o.refs.length:=by
  have:o.refs.length<=q:=by simpa using hc2
  omega
 subst hge;rw[CY hnr,Bool.false_or]at hb1;refine aW<|Sq<|Sr<|Dd aM<|Zz<|aF ?_;refine bJ (σ:=Nat) (fun q=>([(2,.ref 2 0 0 0),(6,iv (q:Int))],[(2,bx 6 151 ((bW o).map .pv))])) (fun q=>q<=o.tags.length/\∀j,j<q->∀b,o.tags[j]?=some b->aFU 600 b=false) (fun q=>o.tags.length - q) 0 ⟨by omega,by omega⟩ ?_ ?_
 ·exact Wk
 rintro q ⟨hq,hnt⟩;refine Sq<|Sr<|Dd aE<|Dd (aT fB)<|Dd (bF cS)<|Dd (fM cZ)<|Dd cW<|Zz ?_;refine Cn ?_ ?_<;>intro hc4
 ·have hlt2:q<o.tags.length:=by simpa using hc4
  obtain ⟨s,hs⟩:=aU hlt2;have hse:=cI (f:=bQ) hs;refine aC<|Sq<|aF<|Sq<|aO follows<|Cq (aT fB)<|Cq (bF cS)<|Cq aE<|Cq (mR kH)<|Cq (NS nG)<|Cq (iN isAgg9)<|Cq (kG underlying9)<|Cq (aT fB)<|Cq (bF cS)<|Cq aE<|Cq (mR kH)<|Cq (NS oF)<|Cq (iN isAgg9)<|Cq (kG underlying9)<|Cq (by exact cB rfl rfl rfl rfl)<|Cq iG<|bM<|Kr ?_;refine Cn ?_ ?_<;>intro hc5
  ·have hbad:EB o n=true:=by rw[hb1,zN hs hc5]
   refine Sr<|Dd aM<|Zz<|aB<|Rt ?_;exact⟨by rw[hbad];rfl,rfl⟩
  refine aC<|Rg<|Dd aE<|Dd mV<|Da ?_;exact⟨q+1,⟨by omega,vB hnt hs hc5⟩,by omega,Wk⟩
 have hge:q=o.tags.length:=by
  have:o.tags.length<=q:=by simpa using hc4
  omega
 subst hge;have hgood:EB o n=false:=by rw[hb1,CY hnt]
 refine aW<|Sr<|Dd aM<|Zz<|aB<|Rt ?_;exact⟨by rw[hgood];rfl,rfl⟩
end Go.Proofs.YtmdicgjnmfolfaaGreatDoor
namespace Go.Abs
section
theorem Clo.up{H H'}(d:∀i,(H.get i).isSome=true->(H'.get i).isSome=true){a}(h:Clo H a):Clo H' a:=by
 induction h with
 |any=>exact .any
 |pv p=>exact .pv p
 |pad rows i k=>exact .pad _ i k
 |ref h=>exact .ref (d _ h)
 |osl h=>exact .osl (d _ h)
 |clo h c=>exact .clo c
 |bnd h c=>exact .bnd c
 |agg h c=>exact .agg c
 |tup h c=>exact .tup c
 |mp h=>exact .mp (d _ h)
 |it h=>exact .it (d _ h)
 |yld h=>exact .yld (d _ h)
 |raw x ts=>exact .raw x _
 |osc h=>exact .osc (d _ h)
theorem Clo.app{D K}{a}(h:Clo K a):Clo (D++K) a:=h.up fun i hi=>by
 rw[gD]
 grind
theorem eI.app{D K}(c:∀p∈D,∀r∈p.2.rows,∀a∈r,Clo (D++K) a)(g:eI K):eI (D++K):=by
 intro id o b;rw[gD]at b;cases e:D.get _ with
 |some x =>
  rw[e]at b;cases b;exact c _ (dZ e)
 |none =>
  rw[e]at b;exact fun r d a f=>(g _ o b r d a f).app
theorem Sub.front{D b K}(f:∀p∈D,K.get p.1=none)(c:∀p∈b,D.get p.1=some p.2):Sub (b++K) (D++K):=by
 intro id o a;rw[gD]at a |-;cases e:b.get _ with
 |some x =>
  rw[e]at a;cases a;rw[c _ (dZ e)]
 | none =>
  rw[e]at a;cases d:D.get _ with
  |none=>exact a
  |some x =>
   have:=f _ (dZ d);rw[this]at a;cases a
theorem KB.front{G0 D a K}(g:∀p∈a,D.get p.1=some p.2)(f:∀p∈D,G0.get p.1=none):KB G0 (a++K) (D++K):=by
 intro id d;have c:D.get id=none:=by
  cases e:D.get _ with
  |none=>rfl
  |some x =>
   have:=f _ (dZ e);rw[this]at d;cases d
 have b:a.get id=none:=by
  cases e:a.get _ with
  |none=>rfl
  |some x =>
   have:=g _ (dZ e);rw[c]at this;cases this
 rw[gD,gD,c,b]
theorem cX.front{G0}{E E'}{K}(D d)(z:EOk E (d++K) E')(j:∀p∈D,K.get p.1=none)(g:∀p∈d,D.get p.1=some p.2)(k:∀p∈d,∀r∈p.2.rows,∀a∈r,Clo (d++K) a)(y:eI K)
  (h:∀p∈D,G0.get p.1=none):cX G0 E (D++K) E' (d++K):=by
 intro G n N a w f;obtain ⟨I,q,l,e,m⟩:=f.rel;subst n;have b:=Sub.front j g;refine⟨f.defers,f.size,I,q,l.restrict b (eI.app k y),e.restrict b (KB.front g h),fun t v x=>?_⟩;obtain ⟨s,i⟩:=z.spec _ (gT x);obtain ⟨c,o,u⟩:=m t v s;exact⟨c,o,u.restrict b i⟩
section
variable{F:Fence}{n:Nat}{P:Program}{b:Frame}{a:Act}{k:List Item}{cs:List Frame}{w:World}{Q:Exit->Act->World->Prop}
theorem pZ{c}:step P (lone (b.atR a (.code (.scope c)::k)) cs w)=.next (lone (b.atR a (.code c::.inScope c::k)) cs w) :=step_lone_go (rfl)
theorem OT{c}:step P (lone (b.atR a (.inScope c::k)) cs w)=.next (lone (b.atR a k) cs w) :=step_lone_go (rfl)
theorem DQ{c}(h:c.wpIn F n P (Exit.noGoto Q) a w):(Code.scope c).wpIn F n P Q a w:=by
 intro b k cs r q o;have j:(lone (b.atR a (.code (.scope c)::k)) _ w).fenced P F:=fenced_calm q o rfl;obtain ⟨e,f,g,i,d⟩:=h b _ _ r q o;cases e with
 |normal=>exact⟨.normal,f,g,i,.head j pZ (StepsIn.trans d (.one (fenced_calm q o rfl) OT))⟩
 | exit id =>
  have hx:exitTo _ (.inScope c::k)=exitTo id k:=rfl;exact⟨_,f,g,i,fun k' u=>.head j pZ (d.1 _ (by simp_all)),
   fun p u=>let ⟨m,s,t⟩:=d.2 p (by simp_all);⟨m,s,.head j pZ t⟩⟩
 |goto l=>exact i.elim
 |ret=>exact⟨_,f,g,i,.of_steps (.one j pZ) d⟩
 |panic ch=>exact⟨_,f,g,i,.of_steps (.one j pZ) d⟩
 |outgrown=>exact⟨_,f,g,i,.of_steps (.one j pZ) d⟩
end
def aJ9(Q:Exit->dG->aH->Prop):Exit->dG->aH->Prop
 |.goto _,_,_=>False
 |e,E,H=>Q e E H
theorem aDX{P}{G0}{N}{E}{H}{Q}{c}(h:gM P G0 N c (aJ9 Q) E H):gM P G0 N (.scope c) Q E H:=by intro G d a w i ro g;refine DQ (wpIn_mono (h G d a w i _ g) ?_);rintro e a' w' ⟨f,b,q,s⟩;cases e<;>first|exact⟨f,b,q,s⟩|exact q.elim
theorem wC{P}{G0}{N}{E}{H H2}{ops}{id n t}{d}{X}{Q}(h:gM P G0 N (.region id ops d) (fun e c H1=>e=.normal/\YE n t X E H2 c H1) E H)(g:Q .normal ((t,.pv (.bool X))::E) H2):gM P G0 N (.region id ops d) Q E H:=by intro G f a w k ro j;refine wpIn_mono (h G f a w k _ j) ?_;rintro e a' w' ⟨c,H1,⟨rfl,i⟩,b⟩;exact⟨_,_,g,(i.ent) G f N _ _ b⟩
def G5(H:aH):aH->Prop
 | []=>True
 |(_,o)::r=>(∀r∈o.rows,∀a∈r,Clo H a)/\G5 H r
theorem G5.spec{H}:∀ {L},G5 H L->∀p∈L,∀r∈p.2.rows,∀a∈r,Clo H a
 |(i,o)::L,h,p,b=>by
  rcases aQQ.1 b with rfl|b
  ·exact h.1
  exact G5.spec h.2 p b
theorem eI.ofL{H}(h:G5 H H):eI H:=fun _ _ a=>h.spec _ (dZ a)
def lo(D:aH)(n:Nat):Prop:=∀p∈D,900<=p.1/\p.1<n
def clear(K:aH):Prop:=∀i,900<=i->i<1000->K.get i=none
theorem Fin.of_ent{G0 H H'}{r r'}(h:cX G0 [(0,r)] H [(0,r')] H'):Fin G0 H r H' r':=by
 intro G b I i w v f a h3;obtain ⟨_,_,I',ι',k1,k2,d⟩:=h G b 1 ⟨#[v],G.ds⟩ w ⟨rP.nil _ _ _,rfl,I,i,f,a,fun t x g=>by
  simp[dG.get]at g;cases e:Nat.beq 0 t with
  |true=>simp_all
  |false=>simp_all⟩
 obtain ⟨c,hc,hv⟩:=d 0 _ rfl
 grind
theorem Sub.front'{D b K}(f:∀p∈D,(b.get p.1).isSome=true\/K.get p.1=none)(c:∀p∈b,D.get p.1=some p.2):Sub (b++K) (D++K):=by
 intro id o a;rw[gD]at a |-;cases e:b.get _ with
 |some x =>
  rw[e]at a;cases a;rw[c _ (dZ e)]
 | none =>
  rw[e]at a;cases d:D.get _ with
  |none=>exact a
  |some x =>
   rcases f _ (dZ d)with h|h;all_goals simp_all
theorem KB.front'{G0 D a K}(c:∀p∈a,D.get p.1=some p.2)(b:∀p∈D,(a.get p.1).isSome=true\/G0.get p.1=none):KB G0 (a++K) (D++K):=by
 intro id hi;rw[gD,gD];cases e:a.get _ with
 |some x=>rw[c _ (dZ e)]
 | none =>
  cases d:D.get _ with
  |none=>rfl
  |some x =>
   rcases b _ (dZ d)with h|h;all_goals simp_all
theorem Fin.front'{G0 K}{r}(D d)(k:Clo (d++K) r)(i:∀p∈D,(d.get p.1).isSome=true\/K.get p.1=none)(e:∀p∈d,D.get p.1=some p.2)(j:∀p∈d,∀r∈p.2.rows,∀a∈r,Clo (d++K) a)(o:eI K)
  (f:∀p∈D,(d.get p.1).isSome=true\/G0.get p.1=none):Fin G0 (D++K) r (d++K) r:=by
 intro G g I l w v m n h;subst g;have b:=Sub.front' i e;exact⟨I,l,m.restrict b (eI.app j o),n.restrict b (KB.front' e f),h.restrict b k⟩
theorem Fin.get'{G0 H H'}{r}(a:∀j,H'.get j=H.get j):Fin G0 H r H' r:=Fin.of_ent (cX.get' ⟨⟨_,rfl,rfl⟩,trivial⟩ a)
end
end Go.Abs
namespace Go.Proofs.YtmdicgjnmfolfaaGreatDoor
open Go.Proofs.Tryz
open Go.Abs
theorem LS:∀ {a b:List GTag},pK a b=true↔a=b
 | [],[]=>by simp[pK]
 | [],_::_=>by simp[pK]
 |_::_,[]=>by simp[pK]
 |x::a,y::b=>by rw[pK,aQN,P8,LS];simp
end Go.Proofs.YtmdicgjnmfolfaaGreatDoor
