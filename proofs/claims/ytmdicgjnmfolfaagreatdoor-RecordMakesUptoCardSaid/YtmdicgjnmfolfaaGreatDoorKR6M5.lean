/-
  Parts of the proof: rules of an abstract program logic, contracts of functions, plain laws. Conditions: each theorem's own.
-/
import Derived.Test.YtmdicgjnmfolfaaGreatDoorKR6M4
import Derived.Lib.UnsafeStr
import Derived.Lib.MakeNoZero
import Derived.Lib.Builder
import Derived.Lib.Overlaps
import Derived.WalkSpells
import Derived.Lib.SliceRun
import Derived.Lib.ItoaLen
set_option linter.unusedVariables false
set_option linter.unusedSimpArgs false
set_option maxRecDepth 100000
set_option maxHeartbeats 8000000
namespace Go.Proofs
open Tryz
theorem pW:type_of% call108:=call108
theorem nL:type_of% call109:=call109
theorem lO:type_of% call110:=call110
theorem nK:type_of% call111:=call111
theorem OM:type_of% call147:=call147
theorem pV:type_of% call158:=call158
theorem UT:type_of% call36:=call36
theorem aPm:type_of% call93:=call93
theorem UP:type_of% call94:=call94
theorem aD9:type_of% func111:=func111
theorem aD7:type_of% func147:=func147
theorem aPK:type_of% func158:=func158
theorem BO:type_of% isAgg135:=isAgg135
theorem YK:type_of% ntmps111:=ntmps111
theorem YI:type_of% ntmps147:=ntmps147
theorem aNy:type_of% ntmps158:=ntmps158
theorem gJ:type_of% underlying135:=underlying135
theorem wF:type_of% underlying174:=underlying174
theorem E8:type_of% underlying201:=underlying201
end Go.Proofs
namespace Go.Abs
variable{I:Nat->Prop}{ι:kY}{w:World}{b cap l id g off len c h sz n k ty:Nat}{e:TypeId}{ob:Ob}{H H':aH}{rows:List (List PV)}{f:List AV}{rows':List (List AV)}
section
def aFc(v:Value):Prop:=∃p,v=.pointer p
theorem W0{P}{e}{s}(c:P.cellsOf e=s+1)(a)(d:1<=a):liesAt P P.depth e a 0 e 1=true:=by have b:P.depth=(2*(P.types.size+Made.depth)+1)+1:=rfl;rw[b];simp[liesAt,Bool.or_eq_true];rw[b];simp[rowAt,c,d,sameLayout]
theorem HN{I}{ι}{H}{w}{v}{id g}{ob}(k:Rel I ι H w)(h:VRel w I ι H v (.ref id g 0 0))(c:H.get id=some ob)(f:ob.g=g)(d:ob.rows≠[]):
  ∃b cap,v=.pointer (some ⟨b,0,none⟩)/\w.shape? b=some (ob.ty,cap*ob.sz)/\0<cap/\0<ob.sz:=by
 obtain ⟨b,cap,i,e2⟩:=nZ h c f;have e:=MM h c f;obtain ⟨_,_,⟨b',cap',cs,a,l,f3,j,f5,_⟩|⟨a,_⟩⟩:=(k.obj _ _ c).cells e
 ·rw[i]at a;cases a;refine⟨b,cap,by simp_all,by simp[World.shape?,l,j],?_,e⟩;have:=List.length_pos_iff.2 d;omega
 rw[i]at a;cases a
theorem VRel.sat_inv{w}{I}{ι}{H}{v}{p}(h:VRel w I ι H v (.pv (.sat p))):p v:=by
 have:=h.pv_inv;cases this with
 |sat h1 a=>exact a
section
variable{P:Program}{N:Nat}{o:Oper}{E:dG}{S T t t' e:TypeId}{x y:Operand}
theorem zE{P:Program}{t}{n}(h:(P.info? t).map (·.size)=some n):∃j,P.info? t=some j/\j.size=n:=by simp_all
theorem D2(i:o.op=.convert S T x)(hS:P.underlying S=some (.pointer t))(v:P.underlying T=some .unsafePointer)(hi:(P.info? t).map (·.size)=some (n+1))(k:aR E x=some (.ref id g 0 0))(s:H.get id=some ob)(h:ob.g=g)(d:ob.rows≠[]):cU P N o E H (.ref id g 0 0) H :=.of_run fun a w I ι l z=>by
  have f:=aJ z k;obtain ⟨b,cap,q,m,p,r⟩:=HN l f s h d;obtain ⟨j,u,h2⟩:=zE hi;have c:=Nat.mul_pos p r;refine⟨_,?_,f⟩;simp only[execOp,i,q];rw[Sem.run_bind,Lib.run_to_unsafe w _ hS v u (by omega) m c];rfl
theorem J1(r:o.op=.convert S T x)(hS:P.underlying S=some .unsafePointer)(z:P.underlying T=some (.pointer t))(hi:(P.info? t).map (·.size)=some (n+1))(s:aR E x=some (.ref id g 0 0))(q:H.get id=some ob)(B:ob.g=g)(c:ob.rows≠[])(d:ob.ty=t)(f:ob.sz=n+1):cU P N o E H (.ref id g 0 0) H :=.of_run fun a w I ι u A=>by
  have k:=aJ A s;obtain ⟨b,cap,v,i,p,e4⟩:=HN u k q B c;obtain ⟨j,l,m⟩:=zE hi;have h:P.cellsOf t=n+1:=by simp[Program.cellsOf,l,m]
  refine⟨_,?_,k⟩;simp only[execOp,r,v];rw[d]at i;rw[Sem.run_bind,Lib.run_from_unsafe w ⟨b,0,none⟩ hS z l i (W0 h _ (by rw[h,f,Nat.mul_div_cancel _ (by omega)];exact p))];rfl
theorem F3{i k}(r:o.op=.binOp .neq t x y t')(s:P.underlying t=some (.pointer e))(hi:(P.info? e).map (·.size)=some (n+1))(m:aR E x=some (.ref id g i k))(v:aR E y=some (.ref id g i k))(f:H.get id=some ob)(c:ob.g=g):cU P N o E H (.pv (.bool false)) H :=.of_run fun a w I ι _ h=>⟨.bool _,by
  obtain ⟨b,cap,p,l⟩:=nZ (aJ h m) f c;obtain ⟨b',cap',d,q⟩:=nZ (aJ h v) f c;rw[p]at d;cases d;obtain ⟨j,u,h2⟩:=zE hi;simp[execOp,r,l,q,eqGuard_at_pointer,Sem.run_bind,Sem.run_pure,Result.andThen_ok,Lib.run_neq_ptr_same w _ s u],.pv (.bool _)⟩
theorem XG(v):aJ8 P Extern.AbiNoEscape.same H [v] v:=by
 intro w I ι b a h;obtain ⟨l⟩:=b
 match l,a with
 | [u],_=>exact⟨u,rfl,h 0 u v rfl rfl⟩
theorem D4(l:o.op=.call {callee:=.builtin .unsafeSliceData,args:=#[x],argTypes:=#[T]})(q:aR E x=some (.osl id g 0 n))(f:H.get id=some ob)(h:ob.g=g)(hn:0<n):cU P N o E H (.ref id g 0 0) H :=.of_run fun a w I ι r s=>by
  have k:=aJ s q;have j:=oM k f h;obtain ⟨hl,⟨b,c,oo,i,m,e3⟩|⟨_,_,_,e4⟩⟩:=jI k f h
  ·obtain ⟨_,_,⟨b',cap',cs,d,f2,f3,f4,f5,_⟩|⟨d,_⟩⟩:=(r.obj _ _ f).cells j
   ·rw[i]at d;cases d;refine⟨.pointer (some ⟨b,0,none⟩),?_,.ref _ f (Nat.le_of_eq h.symm) rfl fun _=>⟨j,b,c,i,by simp⟩⟩;have p:c≠0:=by omega
    simp[execOp,l,resolve,invoke,builtin,m,Lib.run_unsafeSliceData_row w _ _ _ _ _ p]
   rw[i]at d;cases d
  omega
theorem B8(G:o.op=.call {callee:=.builtin .unsafeSliceData,args:=#[x],argTypes:=#[T]})(J:P.underlying o.type=some (.pointer e))(L:aR E x=some (.osl id g 0 0))(r:H.get id=some ob)(D:ob.g=g):cU P N o E H (.pv (.sat aFc)) H:=by
 intro a w I l _ _ m U K Q M;have F:=aJ U L;have V:=oM F r D;have d:∀(c:Value) (f:World),(Builtin.unsafeSliceData_ #[T] o.type #[a.eval x]).run P w=.ok c f->aFc c->Rel I l H f->Step I l H w I l H f->o.wpW P a w K Q:=fun c f j q u v=>by
  have h:c.oneCell'=true:=by obtain ⟨p,rfl⟩:=q;rfl
  unfold Oper.wpW;have:(execOp a.eval o).run P w=.ok (.value c) f:=by
   simp[execOp,G,resolve,invoke,builtin,j]
  rw[this];exact M c f I l _ H ⟨rfl,rfl⟩ (.pv (.sat h q)) u v
 obtain ⟨hl,⟨b,B,s,C,k,e3⟩|⟨_,k,_,e4⟩⟩:=jI F r D
 ·by_cases q:B=0
  ·obtain ⟨_,_,⟨b',cap',R,i,O,f3,f4,f5,_⟩|⟨i,_⟩⟩:=(m.obj id ob r).cells V
   ·rw[C]at i;cases i;obtain ⟨u,v⟩:=m.push _;refine d (.pointer (some ⟨w.heap.size,0,none⟩)) _ ?_ ⟨_,rfl⟩ u v;rw[k,q];exact Lib.run_unsafeSliceData_zero w #[T] o.type e J ⟨b,s,none⟩ 0 (ob.ty,R.size) (by simp[World.shape?,O])
   rw[C]at i;cases i
  refine d (.pointer (some ⟨b,s,none⟩)) _ ?_ ⟨_,rfl⟩ m (Step.refl _ _ _ _);rw[k];exact Lib.run_unsafeSliceData_row w #[T] o.type ⟨b,s,none⟩ 0 _ (by omega)
 refine d (.pointer none) _ ?_ ⟨_,rfl⟩ m (Step.refl _ _ _ _);rw[k];rfl
theorem wZ{c}(d:o.op=.call {callee:=.builtin .unsafeString,args:=#[x,y],argTypes:=#[T,c]})(h:aR E x=some (.pv (.sat aFc)))(f:aR E y=some (.pv (.int .i64 0))):cU P N o E H (.pv (.str ⟨#[]⟩)) H :=.of_run fun a w I ι hr b=>by
  have j:=(aJ b f).int_inv;have i:=(aJ b h).sat_inv;obtain ⟨p,k⟩:=i;refine⟨_,?_,.pv (.str _)⟩;simp[execOp,d,resolve,invoke,builtin,k,j,Lib.run_unsafeString_none w T _ _ p];rfl
theorem Rel.lost{w':World}(q:Rel I ι H w)(D:H.get id=some ob)(U:0<ob.sz)(u:ι id=some (b,cap))(C:w'.os=w.os)(m:w'.tape=w.tape)(s:w'.output=w.output)(l:w'.heap.size=w.heap.size)
  (F:∀c,c≠b->w'.heap[c]?=w.heap[c]?):Rel I (sX ι id) ((id,EU ob)::H) w'/\Step I ι H w I (sX ι id) ((id,EU ob)::H) w':=by
 have B:KA ι H b:=⟨id,ob,cap,D,u⟩;have p:Step I ι H w I (sX ι id) ((id,EU ob)::H) w':=by
  refine⟨C,m,s,by omega,fun a _ J=>?_,fun _ h=>h,fun _ h=>.inl h,fun c z=>?_,fun c _ J=>F c (fun e=>J (e▸B)),fun j o f=>?_⟩
  ·unfold World.frozen?
   grind
  ·obtain ⟨j,o,O,f,i⟩:=z;by_cases e:j=id
   ·rw[sX,aQD e]at i;cases i
   rw[sX,aQC e]at i;rw[get_cons_other _ _ e]at f;exact .inl ⟨j,o,O,f,i⟩
  by_cases e:j=id
  ·subst e;rw[D]at f;cases f;exact⟨EU ob,get_cons_same _ _ _,Nat.le_succ _,fun h=>absurd h (by simp[EU])⟩
  exact⟨o,by rw[get_cons_other _ _ e];exact f,aQK _,fun _=>⟨aQC e,rfl,fun _=>aQK _⟩⟩
 refine⟨⟨fun c z=>by rw[l];exact q.imm c z,fun j o f=>?_,fun j L o V c d Q f A i k=>?_,p.glob q⟩,p⟩
 ·by_cases e:j=id
  ·subst e;rw[get_cons_same]at f;cases f;exact .inl ⟨U,by simp[EU],.inr ⟨aQD rfl,rfl⟩⟩
  rw[get_cons_other _ _ e]at f;exact(q.obj j o f).keep (aQC e) (fun c d R _=>⟨F c (fun z=>e (q.inj j id o ob b d cap f D (by rw[<-z];exact R) u)),fun h=>h⟩) (fun r _ a _ v M=>M.mono q p)
 have K:j≠id:=fun e=>by rw[sX,aQD e]at i;cases i
 have G:L≠id:=fun e=>by rw[sX,aQD e]at k;cases k
 rw[sX,aQC K]at i;rw[sX,aQC G]at k;rw[get_cons_other _ _ K]at f;rw[get_cons_other _ _ G]at A;exact q.inj j L o V c d Q f A i k
theorem yV{z:TypeId}{l:List UInt8}{s:ByteArray}(V:o.op=.call {callee:=.builtin .unsafeString,args:=#[x,y],argTypes:=#[T,z]})(Y:P.underlying T=some (.pointer e))(hi:(P.info? e).map (·.size)=some 1)(W:aR E x=some (.ref id g 0 0))(hy:aR E y=some (.pv (.int .i64 n)))
  (q:H.get id=some ob) (hg:ob.g=g) (h:ob.sz=1) (r:ob.ty=e) (d:ob.rows=eR l) (X:l.length=n) (hn:0<n) (p:n<=9223372036854775807) (U:(⟨l.toArray⟩:ByteArray)=s):cU P N o E H (.pv (.str s)) ((id,EU ob)::H):=by
 subst U X;intro a w I G _ _ B F K Q hk;have O:=aJ F W;obtain ⟨b,cap,m,C⟩:=nZ O q hg;have J:=(aJ F hy).int_inv;obtain ⟨j,h3,R⟩:=zE hi;have Z:P.cellsOf e=1:=by simp[Program.cellsOf,h3,R]
 have hlen:ob.rows.length=l.length:=by rw[d];simp[eR]
 obtain ⟨_,_,⟨b',cap',A,k,D,f3,L,f5,_,f6⟩|⟨k,_⟩⟩:=(B.obj id ob q).cells (by omega)
 ·rw[m]at k;cases k;rw[h,Nat.mul_one]at L;have f:∀j x,l[j]?=some x->w.cell? ((⟨b,0,none⟩:Addr).add j)=some (.int .u8 x.toNat):=fun j x hj=>by
   obtain ⟨v,u,_,q3⟩:=f6 j [.pv (.int .u8 x.toNat)] (by rw[d,eR,aQY,hj];rfl) 0 _ rfl;rw[h,Nat.mul_one,Nat.add_zero,q3.int_inv]at u;rw[Addr.add_lit,aQW,cell_of_row w b _ A ob.ty (0,0) D];exact u
  have i:=Lib.run_unsafeString_row (P:=P) w T z o.type e Y Z b A.size (by rw[<-r];simp[World.shape?,D]) l (fun h0=>by simp_all) (by omega) p f;have M:∀c,c≠b->(w.freeze ⟨b,0,none⟩ l.length).heap[c]?=w.heap[c]?:=fun c hcb=>by
   unfold World.freeze
   grind
  obtain ⟨k1,k2⟩:=B.lost (w':=w.freeze ⟨b,0,none⟩ l.length) q (by omega) m (by unfold World.freeze;all_goals grind) (by unfold World.freeze;all_goals grind) (by unfold World.freeze;all_goals grind) (by unfold World.freeze;split<;>simp) M;unfold Oper.wpW;have:(execOp a.eval o).run P w=.ok (.value (.string ⟨l.toArray⟩)) (w.freeze ⟨b,0,none⟩ l.length):=by
   rw[h]at C;simp[execOp,V,resolve,invoke,builtin,C,J,i]
  rw[this];exact hk _ _ I (sX G id) _ _ ⟨rfl,rfl⟩ (.pv (.str _)) k1 k2
 rw[m]at k;cases k
end
end
section
theorem qE{w}{I}{ι}{H}{v}{id g off len c}{ob}(h:VRel w I ι H v (.osc id g off len c))(hH:H.get id=some ob)(hg:ob.g=g):
  0<ob.sz/\len<=c/\((∃b a,ι id=some (b,off+c)/\v=.slice (some ⟨b,a,none⟩) len c/\(0<c\/off=0->a=off*ob.sz))\/(ι id=none/\v=.slice none 0 0/\off=0/\len=0/\c=0)):=by
 cases h with
 |osc o' h1 h2 _ h3 =>
  simp_all
theorem aBN{w}{I}{ι}{H}{v}{id g off len}{ob}(n:Rel I ι H w)(h:VRel w I ι H v (.osl id g off len))(a:H.get id=some ob)(l:ob.g=g):
  ∃c,len<=c/\c<=maxLen/\VRel w I ι H v (.osc id g off len c):=by
 have j:=oM h a l;obtain ⟨h1,⟨b,i,o,e,f,k⟩|⟨e,f,k,m⟩⟩:=jI h a l
 ·obtain ⟨_,_,⟨b',cap',cs,d,e2,e3,e4,e5,e6,e7⟩|⟨d,_⟩⟩:=(n.obj id ob a).cells j
  ·rw[e]at d;cases d;refine⟨i - off,by omega,by omega,?_⟩;subst f;refine .osc _ a (by omega) rfl fun _=>⟨j,by omega,.inl ⟨b,o,?_,rfl,fun hh=>k (by omega)⟩⟩
   grind
  rw[e]at d;cases d
 subst f k m;exact⟨0,aQK _,aQV _,.osc ob a (by omega) rfl fun _=>⟨j,aQK _,.inr ⟨e,rfl,rfl,rfl,rfl⟩⟩⟩
theorem aIR{w}{I}{ι}{H}{v}{id g off len c}{ob}(h:VRel w I ι H v (.osc id g off len c))(d:H.get id=some ob)(l:ob.g=g)(i:off+len<=ob.rows.length):
  VRel w I ι H v (.osl id g off len):=by
 obtain ⟨j,h1,⟨b,m,f,a,e⟩|⟨f,a,e,k,h6⟩⟩:=qE h d l
 ·subst a;refine .osl _ d (by omega) rfl fun _=>⟨j,i,.inl ⟨b,off+c,m,f,?_,fun hh=>e (by omega)⟩⟩
  simp_all
 subst a e k;exact .osl _ d (by omega) rfl fun _=>⟨j,i,.inr ⟨f,rfl,rfl,rfl⟩⟩
section
variable{P:Program}{G0:aH}{N:Nat}{Q:Exit->dG->aH->Prop}{E:dG}{code:Code}
theorem aDW{t id g off n c}{ob}(l:E.get t=some (.osc id g off n c))(o:H.get id=some ob)(r:ob.g=g)(q:off+n<=ob.rows.length)(h:gM P G0 N code Q ((t,.osl id g off n)::E) H):gM P G0 N code Q E H:=by
 intro G k a w i;obtain ⟨I,s,m,d,j⟩:=i.rel;obtain ⟨v,p,f⟩:=j t _ l;refine h G k a w ⟨i.defers,i.size,I,s,m,d,fun u x b=>?_⟩;by_cases e:t=u
 ·subst e;rw[dG.get_cons_same]at b;cases b;exact⟨v,p,aIR f o r q⟩
 rw[dG.get_cons_other _ _ e]at b;exact j u x b
end
section
variable{P:Program}{N:Nat}{o:Oper}{E:dG}{T:TypeId}{x y:Operand}
theorem CC{e}{id g off len c}{ob}(f:o.op=.call {callee:=.builtin .cap,args:=#[x],argTypes:=#[T]})(h:P.underlying T=some (.slice e))(k:aR E x=some (.osc id g off len c))(i:H.get id=some ob)(j:ob.g=g):cU P N o E H (.pv (.int .i64 c)) H :=.of_run fun a w I ι _ m=>⟨.int _ c,by
  obtain ⟨_,_,⟨b,oo,_,d,_⟩|⟨_,d,_,_,l⟩⟩:=qE (aJ m k) i j
  ·simp[execOp,f,resolve,invoke,builtin,d,Builtin.cap_,run_underlying h,goInt]
  simp[execOp,f,resolve,invoke,builtin,d,l,Builtin.cap_,run_underlying h,goInt],.pv (.int _ _)⟩
theorem CB{e}{id g off len c}{ob}(f:o.op=.call {callee:=.builtin .len,args:=#[x],argTypes:=#[T]})(h:P.underlying T=some (.slice e))(k:aR E x=some (.osc id g off len c))(i:H.get id=some ob)(j:ob.g=g):cU P N o E H (.pv (.int .i64 len)) H :=.of_run fun a w I ι _ m=>⟨.int _ len,by
  obtain ⟨_,_,⟨b,oo,_,d,_⟩|⟨_,d,_,l,_⟩⟩:=qE (aJ m k) i j
  ·simp[execOp,f,resolve,invoke,builtin,d,Builtin.len_,run_underlying h,goInt]
  simp[execOp,f,resolve,invoke,builtin,d,l,Builtin.len_,run_underlying h,goInt],.pv (.int _ _)⟩
theorem U4{lo hi:Option Operand}{j i K:Nat}(G:o.op=.slice T x lo hi none)(hS:fC P T e sz)(X:aR E x=some (.osc id g off len c))
  (q:H.get id=some ob) (U:ob.g=g) (s:ob.sz=sz) (p:bnd E lo 0=some (l:Int)) (m:bnd E hi len=some (h:Int)) (J:l<=h) (V:h<=c) (u:off+l=j) (A:h - l=i) (B:c - l=K):cU P N o E H (.osc id g j i K) H :=
 .of_run fun a w I ι hr z=>by
  have W:=aJ z X;obtain ⟨L,hle,k⟩:=qE W q U;have Y:=hS.1;have C:=hS.2.1;have n:P.elem T=e:=by simp[Program.elem,Y]
  have f:P.underlying T=some (.slice (P.elem T)):=by simp_all
  subst u A B s;rcases k with⟨b,r,D,v,F⟩|⟨D,v,F,R,Q⟩
  ·have t:=lY (P:=P) (b:=true) (len:=len) (cap:=c) z p m J V;have d:=run_slice_any (P:=P) w T (some ⟨b,r,none⟩) len c f (lo.map a.eval) (hi.map a.eval) none;refine⟨.slice (some ⟨b,if c=l then r else r+l*ob.sz,none⟩) (h - l) (c - l),?_,.osc ob q (by omega) rfl fun _=>⟨L,by omega,.inl ⟨b,_,?_,rfl,fun hlt=>?_⟩⟩⟩
   ·simp only[execOp,G,v];simp only[run_sliceAt_slice w T _ _ _ _ f,Sem.run_bind,d,Option.map_none,t,n,C,sliced,Result.andThen_ok,Sem.run_pure];by_cases O:c=l
    ·grind
    simp[O,Addr.add_lit]
   all_goals grind
  subst F R Q;have M:h=0:=by omega
  have S:l=0:=by omega
  subst M S;have t:=lY (P:=P) (b:=true) (len:=0) (cap:=0) z p m J (by simp);have d:=run_slice_any (P:=P) w T none 0 0 f (lo.map a.eval) (hi.map a.eval) none;refine⟨.slice none 0 0,?_,.osc ob q (by omega) rfl fun _=>⟨L,by omega,.inr ⟨D,rfl,rfl,rfl,rfl⟩⟩⟩;simp only[execOp,G,v];simp[run_sliceAt_slice w T _ _ _ _ f,d,t,n,C,sliced]
def aME(w:World)(I:Nat->Prop)(ι:kY)(H:aH)(sz:Nat)(v:Value)(len:Nat)(rows:List (List AV)):Prop :=(∃a c news,v=.slice (some a) len c/\rows.length<=len/\news.length=rows.length*sz/\(∀j u,news[j]?=some u->w.cell? (a.add j)=some u)/\(∀u∈news,u.oneCell'=true)/\rK w I ι H sz news rows) \/
 (v=.slice none 0 0/\len=0/\rows=[])
theorem rK.take{I}{l:List Value}{rows}(h:rK w I ι H sz l rows)(hl:∀r∈rows,r.length=sz)(k:Nat):rK w I ι H sz (l.take (k*sz)) (rows.take k):=by
 intro i r b j a d;rw[List.getElem?_take]at b
 split at b
 ·obtain ⟨u,e,c,f⟩:=h i r b j a d;have hjs:j<sz:=by grind
  refine⟨u,?_,c,f⟩;rw[List.getElem?_take,aQD]
  ·exact e
  have:(i+1)*sz<=k*sz:=Nat.mul_le_mul_right _ (by omega);rw[Nat.add_mul]at this;omega
 grind
theorem rK.drop{w}{I}{ι}{H}{sz}{l}{rows}(h:rK w I ι H sz l rows)(k):rK w I ι H sz (l.drop (k*sz)) (rows.drop k):=by
 intro i r b j a c;rw[List.getElem?_drop]at b;obtain ⟨u,q1,q2,q3⟩:=h _ r b j a c
 grind
theorem aEM{w}{I}{ι}{H}{sz id g off len c}{ob}{v}(u:Rel I ι H w)(h:VRel w I ι H v (.osc id g off len c))(i:H.get id=some ob)(q:ob.g=g)(f:ob.sz=sz)(k)(hk:k<=len)(e:off+k<=ob.rows.length):
  aME w I ι H sz v len ((ob.rows.drop off).take k):=by
 obtain ⟨B,h1,⟨b,p,s,m,l⟩|⟨s,m,l,z,h6⟩⟩:=qE h i q
 ·have A:VRel w I _ H (.slice (some ⟨b,p,none⟩) k c) (.osl _ g _ k) :=
   .osl _ i (by omega) rfl fun _=>⟨B,e,.inl ⟨b,off+c,p,s,by simp,fun hh=>l (by omega)⟩⟩
  rcases aAt u A i q f with⟨a,c',d,n,r,t,C,D⟩|⟨n,r⟩
  ·injection n with j q2 q3;injection j with j;subst j;exact .inl ⟨_,c,d,m,by omega,r,t,C,D⟩
  cases n
 subst l z;have:k=0:=by omega
 subst this;exact .inr ⟨m,rfl,rfl⟩
theorem Rel.write{g2:Nat}{cs:Array Value}{d:List Value}{c:List (List AV)}(t:Rel I ι H w)(Q:H.get id=some ob)(p:ι id=some (b,cap))(D:w.heap[b]?=some (.cells cs ob.ty (0,0)))
  (U:d.length=c.length*ob.sz) (V:rK w I ι H ob.sz d c) (L:∀r∈c,r.length=ob.sz) (Z:off<=ob.rows.length) (Y:off+c.length<=cap) (F:ob.g<=g2)
  (X:H'.get id=some ⟨g2,ob.sz,ob.ty,ob.rows.take off++(c++ob.rows.drop (off+c.length))⟩) (h2:∀j,j≠id->H'.get j=H.get j) :
  Rel I ι H' (w.setRow b (cs.toList.take (off*ob.sz)++d++cs.toList.drop (off*ob.sz+d.length)).toArray)/\Step I ι H w I ι H' (w.setRow b (cs.toList.take (off*ob.sz)++d++cs.toList.drop (off*ob.sz+d.length)).toArray):=by
 obtain ⟨p1,q,⟨b',cap',cs',G,R,e3,S,e5,e5',W⟩|⟨G,_⟩⟩:=(t.obj id ob Q).cells ((t.obj id ob Q).pos p D)
 ·rw[p]at G;cases G;rw[D]at R;cases R;have l:rK w I ι H ob.sz cs.toList ob.rows:=fun i r s k a K=>by
   obtain ⟨v,A,C,M⟩:=W i r s k a K;exact⟨v,by simpa using A,C,M⟩
  have B:off<=cap:=by omega
  have O:(cs.toList.take (off*ob.sz)).length=(ob.rows.take off).length*ob.sz:=by
   have:off*ob.sz<=cap*ob.sz:=Nat.mul_le_mul_right _ B;rw[aQS,aQS,Array.length_toList,S,Nat.min_eq_left this,Nat.min_eq_left Z]
  have J:off*ob.sz+d.length=(off+c.length)*ob.sz:=by rw[U,Nat.add_mul]
  have f:rK w I ι H ob.sz (d++(cs.toList.drop (off*ob.sz+d.length)++[])) (c++ob.rows.drop (off+c.length)):=by
   refine rK.app V U ?_;rw[J];exact l.drop _
  rw[List.append_nil]at f;have m:=rK.app (l3:=[]) (l.take q off) O f;rw[List.append_nil]at m;have n:(cs.toList.take (off*ob.sz)++d++cs.toList.drop (off*ob.sz+d.length)).toArray.size=cap*ob.sz:=by
   have:(off+c.length)*ob.sz<=cap*ob.sz:=Nat.mul_le_mul_right _ Y;simp only[List.size_toArray,aQF,aQS,aQT,Array.length_toList,S];omega
  refine Rel.update (ob':=⟨g2,ob.sz,ob.ty,ob.rows.take off++(c++ob.rows.drop (off+c.length))⟩) t Q p D F rfl rfl (fun _=>?_) n ?_ (fun r z=>?_) (fun i r s k a K=>?_) X h2
  ·simp only[aQF,aQS,aQT];omega
  ·simp only[aQF,aQS,aQT];omega
  ·rcases List.mem_append.1 z with h|h
   ·exact q r (List.mem_of_mem_take h)
   rcases List.mem_append.1 h with h|h
   ·exact L r h
   exact q r (List.mem_of_mem_drop h)
  obtain ⟨u,A,C,M⟩:=m i r s k a K;refine⟨u,?_,C,M⟩;rw[List.getElem?_toArray,List.append_assoc];exact A
 simp_all
theorem PZ{off n}{rows:List (List AV)}(h:n=0):rows.take off++([]++rows.drop (off+n))=rows:=by simp_all
theorem aFD{D S:TypeId}{f:Nat}{h:List (List AV)}{H2:aH}(ho:o.op=.call {callee:=.builtin .copy,args:=#[x,y],argTypes:=#[D,S]})(hS:fC P D e sz)
  (hd:∀(a:Act) (w:World) (I:Nat->Prop) (ι:kY),Rel I ι H w->jL w I ι H E a->∃c,VRel w I ι H (a.eval x) (.osc id g off len c)) (hH:H.get id=some ob) (hg:ob.g=g) (hsz:ob.sz=sz) (X:off<=ob.rows.length)
  (p:∀(a:Act) (w:World) (I:Nat->Prop) (ι:kY),Rel I ι H w->jL w I ι H E a->aME w I ι H sz (a.eval y) f h) (hrl2:∀r∈h,r.length=sz) (hn:h.length=n) (Z:min f len=n)
  (O:∀j,H2.get j=(H.set id ⟨g,sz,ob.ty,ob.rows.take off++(h++ob.rows.drop (off+n))⟩).get j):cU P N o E H (.pv (.int .i64 n)) H2:=by
 intro a w I ι _ _ G W K Q hk;obtain ⟨c,hv⟩:=hd a w I ι G W;obtain ⟨hz,h1,L⟩:=qE hv hH hg;have k:Nat.min f len=n:=Z;have V:=hS.2.1;have U:=hS.1;subst hg hsz;have A:n=0->(∀j,H2.get j=H.get j):=fun h0 j=>by
  rw[O j];have hr0:h=[]:=List.eq_nil_of_length_eq_zero (by omega);subst hr0;rw[PZ h0];by_cases e:j=id
  ·subst e;rw[aH.get_set_same,hH]
  exact aH.get_set_other _ _ e
 have l:∀d:List Value,∀v C,a.eval y=.slice (some v) f C->d.length=n*ob.sz->(∀j u,d[j]?=some u->w.cell? (v.add j)=some u)->(Builtin.firstCells ob.sz n (a.eval y)).run P w=.ok d.toArray w:=fun d v C J e2 e3=>by
  rw[J];exact run_firstCells_some (P:=P) w ob.sz n v f C d e2 e3
 rcases L with⟨b,oo,c1,c2,c3⟩|⟨c1,c2,c3,c4,c5⟩
 ·by_cases m:n=0
  ·obtain ⟨Y,k3⟩:=G.congr (A m);have z:(execOp a.eval o).run P w=.ok (.value (.int .i64 ((0:Nat):Int))) w:=by
    unfold execOp;have F:(Builtin.firstCells ob.sz n (a.eval y)).run P w=.ok #[] w:=by
     rcases p a w I ι G W with⟨v,C,d,i,B,t,M,s5,s6⟩|⟨i,B,t⟩
     ·have:=l d v C i (by grind) M;have R:d=[]:=List.eq_nil_of_length_eq_zero (by simp_all);rw[this,R]
     rw[i];exact run_firstCells_none (P:=P) (w:=w) ob.sz n 0 0
    have q:(Builtin.lenOf (a.eval y)).run P w=.ok f w:=by
     rcases p a w I ι G W with⟨v,C,d,i,B,t,M,s5,s6⟩|⟨i,B,t⟩
     ·rw[i];rfl
     rw[i,B];rfl
    simp only[ho,resolve,invoke,builtin,Sem.run_bind,Sem.run_pure,Result.andThen_ok,List.map_toArray,List.map_cons,List.map_nil,c2,Builtin.copy_,run_underlying U,V];simp only[List.getElem?_toArray,List.getElem?_cons_zero,List.getElem?_cons_succ,run_underlying U,Sem.run_bind,Sem.run_pure,Result.andThen_ok,V,q,k,F];simp[storeCells,goInt,m]
   unfold Oper.wpW;rw[z];subst m;exact hk _ _ I ι _ _ ⟨rfl,rfl⟩ (.pv (.int _ _)) Y k3
  obtain ⟨p1,p2,⟨b',cap',cs,J,e2,e3,e4,e5,e5',e6⟩|⟨J,_⟩⟩:=(G.obj id ob hH).cells hz
  ·rw[c1]at J;cases J;have hoo:=c3 (by omega);subst hoo;rcases p a w I ι G W with⟨v,C,d,i,B,t,M,s5,s6⟩|⟨i,B,t⟩
   ·have hnl:d.length=n*ob.sz:=by rw[t,hn]
    have F:=l d v C i hnl M;have hfit:off*ob.sz+0+d.length<=cs.size:=by
     rw[e4,hnl,Nat.add_zero,<-Nat.add_mul];exact Nat.mul_le_mul_right _ (by omega)
    have hst:=run_storeCells_at P b (off*ob.sz) ob.ty d 0 cs w e2 hfit s5;simp only[Nat.add_zero]at hst;obtain ⟨Y,k3⟩:=Rel.write (H':=H2) (off:=off) (g2:=ob.g) G hH c1 e2 t s6 hrl2 X (by omega) (aQK _) (by rw[O,aH.get_set_same,hn]) (fun j hj=>by rw[O,aH.get_set_other _ _ hj]);unfold Oper.wpW execOp;simp only[ho,resolve,invoke,builtin,Sem.run_bind,Sem.run_pure,Result.andThen_ok,List.map_toArray,List.map_cons,List.map_nil,c2,Builtin.copy_,run_underlying U,V];have q:(Builtin.lenOf (a.eval y)).run P w=.ok f w:=by rw[i];rfl
    simp only[List.getElem?_toArray,List.getElem?_cons_zero,List.getElem?_cons_succ,run_underlying U,Sem.run_bind,Sem.run_pure,Result.andThen_ok,V,q,k,F,hst];exact hk _ _ I ι _ _ ⟨rfl,rfl⟩ (.pv (.int _ _)) Y k3
   omega
  rw[c1]at J;cases J
 have m:n=0:=by omega
 obtain ⟨Y,k3⟩:=G.congr (A m);have z:(execOp a.eval o).run P w=.ok (.value (.int .i64 ((0:Nat):Int))) w:=by
  unfold execOp;have F:(Builtin.firstCells ob.sz n (a.eval y)).run P w=.ok #[] w:=by
   rcases p a w I ι G W with⟨v,C,d,i,B,t,M,s5,s6⟩|⟨i,B,t⟩
   ·have:=l d v C i (by rw[t,hn]) M;have R:d=[]:=List.eq_nil_of_length_eq_zero (by rw[t,hn,m];simp);rw[this,R]
   rw[i];exact run_firstCells_none (P:=P) (w:=w) ob.sz n 0 0
  have q:(Builtin.lenOf (a.eval y)).run P w=.ok f w:=by
   rcases p a w I ι G W with⟨v,C,d,i,B,t,M,s5,s6⟩|⟨i,B,t⟩
   ·rw[i];rfl
   rw[i,B];rfl
  rw[c4]at k;simp only[ho,resolve,invoke,builtin,Sem.run_bind,Sem.run_pure,Result.andThen_ok,List.map_toArray,List.map_cons,List.map_nil,c2,Builtin.copy_,run_underlying U,V];simp only[List.getElem?_toArray,List.getElem?_cons_zero,List.getElem?_cons_succ,run_underlying U,Sem.run_bind,Sem.run_pure,Result.andThen_ok,V,q,k,F];simp[storeCells,goInt,m]
 unfold Oper.wpW;rw[z];subst m;exact hk _ _ I ι _ _ ⟨rfl,rfl⟩ (.pv (.int _ _)) Y k3
end
end
section
section
variable{P:Program}{N:Nat}{o:Oper}{E:dG}{T:TypeId}{x y:Operand}
theorem rL(t u ty e:TypeId)(i:TypeInfo)(z:Value)(k C:IntKind)(A:P.underlying t=some (.slice e))(p:P.underlying u=some (.int C))(hi:P.info? e=some i)(B:i.zero=some z)
  (b:Option Addr) (c d:Nat) (f:List Value) (hf:∀w:World,(∀a:Addr,w.cell? a=w.cell? a)->True) (s:(Builtin.firstCells i.size c (.slice b c d)).run P w.drew=.ok f.toArray w.drew)
  (n:Nat) (h0:0<n) (hs:0<i.size) (hg:d<c+n) (h63:((c+n:Nat):Int)<=9223372036854775807) (hfit:Builtin.nextslicecap (c+n) d*i.bytes<=281474976710656) (h48:n*i.bytes<=281474976710656) :
  (Builtin.append_ #[t,u] ty #[.slice b c d,.int k n]).run P w =
   .ok (.slice (some ⟨w.heap.size,0,none⟩) (c+n) (grownCap w (c+n) d e))
    (w.drew.alloc (.cells (f.toArray++Builtin.zeroCells z.cells n++Builtin.zeroCells z.cells (grownCap w (c+n) d e - (c+n))) e)):=by
 have D:¬ (c+n<=d):=by omega
 have v:IntKind.i64.wrap (n:Int)=n:=by rw[IntKind.wrap_i64];omega
 have l:¬ (9223372036854775807<((c:Int)+(n:Int))):=by omega
 have m:¬ (281474976710656<Builtin.nextslicecap (c+n) d*i.bytes):=by omega
 have j:¬ (281474976710656<(n:Int)*(i.bytes:Int)):=by
  omega
 have g:¬ ((n:Int)<0):=by omega
 have h:n≠0:=by omega
 have q:¬ (n*i.size=0):=Nat.mul_ne_zero h (by omega);simp[Builtin.append_,run_underlying A,run_underlying p,sizeOf,typeInfo,zeroValue,hi,B,asInt,asIntOf,v,D,h,g,q,l,m,j,Question.forced,s,newRow,grownCap]
theorem aBw{z:Value}{b:List AV}(g:zP w I ι H z.cells b)(p:b.length=sz)(d:z.cells.size=sz)(v:0<sz)(n:Nat):
  (Builtin.zeroCells z.cells n).toList.length=n*sz/\(∀u∈(Builtin.zeroCells z.cells n).toList,u.oneCell'=true)/\rK w I ι H sz (Builtin.zeroCells z.cells n).toList (List.replicate n b):=by
 have c:∀j,j<n*sz->∃f:j % sz<z.cells.size,(Builtin.zeroCells z.cells n).toList[j]?=some (z.cells[j % sz]):=by
  intro j s;have f:j % sz<z.cells.size:=by rw[d];exact Nat.mod_lt _ v
  refine⟨f,?_⟩;rw[Array.getElem?_toList];simp only[Builtin.zeroCells,Array.getElem?_map]
  grind
 have q:(Builtin.zeroCells z.cells n).toList.length=n*sz:=by rw[Array.length_toList,size_zeroCells,d]
 refine⟨q,?_,?_⟩
 ·intro u G;obtain ⟨j,s⟩:=aQZ.1 G;have D:j<n*sz:=by
   have:=(aQI.1 s).1;rw[q]at this;exact this
  obtain ⟨f,e⟩:=c j D;rw[e]at s;cases s;have B:j % sz<b.length:=by omega
  obtain ⟨u,h,A,_⟩:=g.2 _ _ (aQJ B);rw[Array.getElem?_eq_getElem f]at h;cases h;exact A
 intro i r t k av f;rw[List.getElem?_replicate]at t
 split at t
 ·cases t;rename_i C;have m:k<sz:=by rw[<-p];exact(aQI.1 f).1
  have l:i*sz+k<n*sz:=by
   have:(i+1)*sz<=n*sz:=Nat.mul_le_mul_right _ C;rw[Nat.add_mul]at this;omega
  obtain ⟨hk2,e⟩:=c _ l;obtain ⟨u,h,A,F⟩:=g.2 k av f;refine⟨u,?_,A,F⟩;rw[e];rw[Array.getElem?_eq_getElem (by rw[d];exact m)]at h;cases h;congr 2;exact DE m
 cases t
theorem K9{U:TypeId}{m bytes id2:Nat}{kk kn:IntKind}{q:Int}(ho:o.op=.call {callee:=.builtin .append,args:=#[x,y],argTypes:=#[T,U]})(hS:fC P T e sz)(Z:P.underlying U=some (.int kn))(A:EI P e sz bytes)(hZ:eN P e f)(M:f.length=sz)
  (hx:aR E x=some (.osc id g 0 n c)) (hH:H.get id=some ob) (hg:ob.g=g) (V:ob.sz=sz) (O:n<=ob.rows.length)
  (hy:aR E y=some (.pv (.int kk q))) (hq:q=(m:Int)) (hm0:0<m) (hroom:c<n+m) (hk:n+m=k) (p:(n+m)*bytes<=140737488355328) (hid:H.get id2=none)
  (J:ob.rows.take n++List.replicate m f=rows'):cU P N o E H (.osl id2 0 0 k) ((id2,⟨0,sz,e,rows'⟩)::H):=by
 intro a w I ι _ _ hr he K Q hkk;have hmax:=VJ A.2 p;obtain ⟨⟨i,z,hi,hz,l,W,hzs,hsz0⟩,_⟩:=A;obtain ⟨t,zv,z1,z2,z3⟩:=hZ;have ezz:t=z:=by
  have:=z1 w;simp[zeroValue,typeInfo,hi,hz]at this;exact this.symm
 subst ezz hg V hk J hq;have hml:n+m<=maxLen:=by simp only[maxLen];omega
 have hv:=aJ he hx;have hvy:=(aJ he hy).int_inv;obtain ⟨s,h1,G⟩:=qE hv hH rfl;have hT:=hS.1;have p2:=((hr.obj id ob hH).cells s).2.1;have hcr:=zP.of_cells (ZV.rel (w:=w) (I:=I) (ι:=ι) (H:=H) z2) z3;obtain ⟨zl,_,zr⟩:=aBw hcr M hzs s m;have hrl:∀r∈ob.rows.take n++List.replicate m f,r.length=ob.sz:=fun r hr'=>by
  grind
 have g1:aH.get ((id2,(⟨0,ob.sz,e,ob.rows.take n++List.replicate m f⟩:Ob))::H) id2=some ⟨0,ob.sz,e,ob.rows.take n++List.replicate m f⟩:=get_cons_same _ _ _;have g2:∀j,j≠id2->aH.get ((id2,(⟨0,ob.sz,e,ob.rows.take n++List.replicate m f⟩:Ob))::H) j=H.get j:=fun j hj=>get_cons_other _ _ hj;have R:(ob.rows.take n++List.replicate m f).length=n+m:=by simp_all
 have hge:=grownCap_ge w (n+m) c e;have hcm:=grownCap_le_maxLen w (n+m) c e hml;have v:∀(d:List Value),d.length=n*ob.sz->rK w I ι H ob.sz d (ob.rows.take n) ->
   (Builtin.append_ #[T,U] o.type #[a.eval x,a.eval y]).run P w=.ok (.slice (some ⟨w.heap.size,0,none⟩) (n+m) (grownCap w (n+m) c e)) (w.drew.alloc (.cells (d.toArray++Builtin.zeroCells t.cells m++Builtin.zeroCells t.cells (grownCap w (n+m) c e - (n+m))) e))->o.wpW P a w K Q:=by
  intro d L q2 h;obtain ⟨k2,k3⟩:=Rel.place (H':=(id2,⟨0,ob.sz,e,ob.rows.take n++List.replicate m f⟩)::H) (id:=id2) (cap:=grownCap w (n+m) c e) (ob':=⟨0,ob.sz,e,ob.rows.take n++List.replicate m f⟩)
   (cs':=d.toArray++Builtin.zeroCells t.cells m++Builtin.zeroCells t.cells (grownCap w (n+m) c e - (n+m)))
   (w':=w.drew.alloc (.cells (d.toArray++Builtin.zeroCells t.cells m++Builtin.zeroCells t.cells (grownCap w (n+m) c e - (n+m))) e)) hr rfl rfl rfl rfl
   (fun o' ho'=>by simp_all) s (by
    simp only[Array.size_append,List.size_toArray,size_zeroCells,hzs,L,<-Nat.add_mul]
    simp_all) (by simp_all) hcm hrl (fun i' r F k' a' hk'=>by
     obtain ⟨u,S,t2,t3⟩:=rK.app (l3:=(Builtin.zeroCells t.cells (grownCap w (n+m) c e - (n+m))).toList) q2 (by rw[L,aQS,Nat.min_eq_left O]) zr i' r F k' a' hk';refine⟨u,?_,t2,t3⟩;rw[<-Array.getElem?_toList]
     simpa[List.append_assoc]using S) g1 g2
  unfold Oper.wpW execOp;simp only[ho,resolve,invoke,builtin,Sem.run_bind,Sem.run_pure,Result.andThen_ok,List.map_toArray,List.map_cons,List.map_nil,h];exact hkk _ _ I _ _ _ ⟨rfl,rfl⟩ (.osl _ g1 (aQK _) rfl fun _=>⟨s,by rw[R];omega,.inl ⟨w.heap.size,_,0,by simp;rfl,by simp,fun _=>by simp⟩⟩) k2 k3
 have B:Builtin.nextslicecap (n+m) c*i.bytes<=281474976710656:=growslice_fits (by omega) (by rw[W];exact p);have C:m*i.bytes<=281474976710656:=by
  have:m*i.bytes<=(n+m)*i.bytes:=Nat.mul_le_mul_right _ (by omega);rw[W]at this |-;omega
 rcases G with⟨b,oo,c1,c2,c3⟩|⟨c1,c2,c3,c4,c5⟩
 ·have hoo:oo=0:=by rw[c3 (.inr rfl)];simp
  subst hoo;have Y:=aEM hr (show VRel w I ι H (.slice (some ⟨b,0,none⟩) n c) (.osc id ob.g 0 n c)by rw[<-c2];exact hv) hH rfl rfl n (aQK _) (by omega);rw[List.drop_zero]at Y;rcases Y with⟨ad0,c0,d,S,t2,t3,t4,t5,t6⟩|⟨S,_⟩
  ·injection S with L q2 q3;injection L with L;subst L;have X:d.length=n*ob.sz:=by rw[t3,aQS,Nat.min_eq_left O]
   have D:=run_firstCells_some (P:=P) w.drew i.size n ⟨b,0,none⟩ n c d (by rw[l];exact X) (by simpa using t4);have h:=rL (P:=P) (w:=w) T U o.type e i t kk kn hT Z hi hz (some ⟨b,0,none⟩) n c d (fun _ _=>trivial) D m hm0 (by rw[l];exact s) (by omega) (by omega) B C;exact v d X t6 (by rw[c2,hvy];exact h)
  cases S
 subst c4 c5;have D:=run_firstCells_none (P:=P) (w:=w.drew) i.size 0 0 0;have h:=rL (P:=P) (w:=w) T U o.type e i t kk kn hT Z hi hz none 0 0 [] (fun _ _=>trivial) D m hm0 (by rw[l];exact s) (by omega) (by omega) B C;exact v [] (by simp) (by intro i r F;simp at F) (by rw[c2,hvy];exact h)
theorem aCg(ho:o.op=.call {callee:=.builtin .clear,args:=#[x],argTypes:=#[T]})(hS:fC P T e sz)(hZ:eN P e f)(h:f.length=sz)
  (hx:aR E x=some (.osc id g off len c)) (V:H.get id=some ob) (hg:ob.g=g) (G:ob.sz=sz) (R:off<=ob.rows.length) (s:ob.rows.take off++(List.replicate len f++ob.rows.drop (off+len))=rows') :
  cU P N o E H .any ((id,⟨g,sz,ob.ty,rows'⟩)::H):=by
 intro a w I W _ _ hr he K Q L;obtain ⟨z,zv,z1,z2,z3⟩:=hZ;subst hg G s;have hv:=aJ he hx;obtain ⟨v,h1,t⟩:=qE hv V rfl;have hT:=hS.1;have B:=zP.of_cells (ZV.rel (w:=w) (I:=I) (ι:=W) (H:=H) z2) z3;have p:z.cells.size=ob.sz:=by rw[<-h];exact B.1
 have m:len=0->(execOp a.eval o).run P w=.ok (.value (.tuple #[])) w->o.wpW P a w K Q:=by
  intro U J;obtain ⟨k2,k3⟩:=hr.congr (H':=(id,⟨ob.g,ob.sz,ob.ty,ob.rows.take off++(List.replicate len f++ob.rows.drop (off+len))⟩)::H) (fun j=>by
   subst U;rw[List.replicate_zero,PZ rfl];by_cases e:j=id
   ·subst e;rw[get_cons_same,V]
   exact get_cons_other _ _ e)
  unfold Oper.wpW;rw[J];exact L _ _ I W _ _ ⟨rfl,rfl⟩ (.any _) k2 k3
 rcases t with⟨b,oo,Z,X,c3⟩|⟨Z,X,c3,c4,c5⟩
 ·by_cases U:len=0
  ·refine m U ?_;unfold execOp;simp only[ho,resolve,invoke,builtin,Sem.run_bind,Sem.run_pure,Result.andThen_ok,List.map_toArray,List.map_cons,List.map_nil,X,U,Builtin.clear_];simp[run_underlying hT]
  obtain ⟨p1,p2,⟨b',cap',cs,M,e2,e3,e4,e5,e5',e6⟩|⟨M,_⟩⟩:=(hr.obj id ob V).cells v
  ·rw [Z] at M;cases M;have hoo:=c3 (by omega);subst hoo;have q:(Builtin.zeroCells z.cells len).toList.length=(List.replicate len f).length*ob.sz:=by
    rw[Array.length_toList,size_zeroCells,p,List.length_replicate]
   have n:∀j,j<len*ob.sz->∃A:j % ob.sz<z.cells.size,(Builtin.zeroCells z.cells len).toList[j]?=some (z.cells[j % ob.sz]):=by
    intro j C;have A:j % ob.sz<z.cells.size:=by rw[p];exact Nat.mod_lt _ v
    refine⟨A,?_⟩;rw[Array.getElem?_toList];simp only[Builtin.zeroCells,Array.getElem?_map]
    grind
   have F:∀u∈(Builtin.zeroCells z.cells len).toList,u.oneCell'=true:=by
    intro u hu;obtain ⟨j,C⟩:=aQZ.1 hu;have hjl:j<len*ob.sz:=by
     have:=(aQI.1 C).1;rw[q,List.length_replicate]at this;exact this
    obtain ⟨A,e⟩:=n j hjl;rw[e]at C;cases C;have hkr:j % ob.sz<f.length:=by rw[h];exact Nat.mod_lt _ v
    obtain ⟨u,S,q2,_⟩:=B.2 _ _ (aQJ hkr);rw[Array.getElem?_eq_getElem A]at S;cases S;exact q2
   have hlr:rK w I W H ob.sz (Builtin.zeroCells z.cells len).toList (List.replicate len f):=by
    intro i r Y k av A;rw[List.getElem?_replicate]at Y
    split at Y
    ·cases Y;rename_i hlt;have O:k<ob.sz:=by rw[<-h];exact(aQI.1 A).1
     have l:i*ob.sz+k<len*ob.sz:=by
      have:(i+1)*ob.sz<=len*ob.sz:=Nat.mul_le_mul_right _ hlt;rw[Nat.add_mul]at this;omega
     obtain ⟨hk2,e⟩:=n _ l;obtain ⟨u,S,q2,q3⟩:=B.2 k av A;refine⟨u,?_,q2,q3⟩;rw[e];rw[Array.getElem?_eq_getElem (by rw[p];exact O)]at S;cases S;congr 2;exact DE O
    cases Y
   have l:off*ob.sz+0+(Builtin.zeroCells z.cells len).toList.length<=cs.size:=by
    rw[e4,q,List.length_replicate,Nat.add_zero,<-Nat.add_mul];exact Nat.mul_le_mul_right _ (by omega)
   have D:=run_storeCells_at P b (off*ob.sz) ob.ty (Builtin.zeroCells z.cells len).toList 0 cs w e2 l F;simp only[Nat.add_zero]at D;obtain ⟨k2,k3⟩:=Rel.write (H':=(id,⟨ob.g,ob.sz,ob.ty,ob.rows.take off++(List.replicate len f++ob.rows.drop (off+len))⟩)::H) (off:=off) (g2:=ob.g) hr V Z e2 q hlr (fun r hr'=>by rw[(List.mem_replicate.1 hr').2];exact h) R (by rw[List.length_replicate];omega) (aQK _) (by rw[get_cons_same,List.length_replicate]) (fun j C=>get_cons_other _ _ C);unfold Oper.wpW execOp;simp only[ho,resolve,invoke,builtin,Sem.run_bind,Sem.run_pure,Result.andThen_ok,List.map_toArray,List.map_cons,List.map_nil,X,Builtin.clear_];obtain ⟨n',hn'⟩:∃n',len=n'+1:=⟨len - 1,by omega⟩;subst hn';simp only[List.getElem?_toArray,List.getElem?_cons_zero,run_underlying hT,Sem.run_bind,Sem.run_pure,Result.andThen_ok,z1,D];exact L _ _ I W _ _ ⟨rfl,rfl⟩ (.any _) k2 k3
  rw[Z]at M;cases M
 refine m c4 ?_;unfold execOp;simp only[ho,resolve,invoke,builtin,Sem.run_bind,Sem.run_pure,Result.andThen_ok,List.map_toArray,List.map_cons,List.map_nil,X,Builtin.clear_];simp[run_underlying hT]
end
end
section
section
variable{P:Program}{N:Nat}{o:Oper}{E:dG}{T t t':TypeId}{x y:Operand}
theorem Y9{e}(w)(h:P.underlying t=some (.slice e))(a)(n c b c'):(binOp .eql t (.slice a n c) (.slice none b c')).run P w=.ok (.bool a.isNone) w:=by simp[binOp];cases a<;>simp[Op.equal,Op.maxDepth,Lib.run_equalIn_slice_nil w _ t e _ n c _ _ h]
theorem ZT(i:o.op=.binOp .eql t x (.const (.slice none 0 0)) t')(p:P.underlying t=some (.slice e))(j:aR E x=some (.pv (.sl rows))):OpR P N o E H (fun r H'=>H'=H/\∃b,r=.pv (.bool b)/\(b=true->rows=[])):=by
 intro a w I m _ _ k h K Q s;have f:=(aJ h j).pv_inv;have l:a.eval (.const (.slice none 0 0))=.slice none 0 0:=rfl;obtain ⟨b,n,c,q,g⟩:∃(b:Option Addr) (n c:Nat),a.eval x=.slice b n c/\(b.isNone=true->rows=[]):=by
  generalize a.eval x=v at f;cases f with
  |nilsl=>simp_all
  |empsl a=>simp_all
  |sl b off cap sz _ cs g h2 h3 h4 h5 h6=>simp_all
 unfold Oper.wpW;have d:(execOp a.eval o).run P w=.ok (.value (.bool b.isNone)) w:=by
  simp only[execOp,i,q,l,eqGuard_at_slice,Sem.run_bind,Sem.run_pure,Result.andThen_ok,Y9 _ p]
 rw[d];exact s _ _ I m _ _ ⟨rfl,_,rfl,g⟩ (.pv (.bool _)) k (Step.refl _ _ _ _)
def aKK(E:dG)(H:aH)(sz:Nat)(y:Operand)(len:Nat)(rows:List (List AV)):Prop :=∀(a:Act) (w:World) (I:Nat->Prop) (ι:kY),Rel I ι H w->jL w I ι H E a->aME w I ι H sz (a.eval y) len rows
def aKM(E:dG)(H:aH)(x:Operand)(id g off len:Nat):Prop :=∀(a:Act) (w:World) (I:Nat->Prop) (ι:kY),Rel I ι H w->jL w I ι H E a->∃c,VRel w I ι H (a.eval x) (.osc id g off len c)
theorem aAR{id g off len}{ob}(d:aR E x=some (.osl id g off len))(i:H.get id=some ob)(b:ob.g=g):aKM E H x id g off len:=fun a w I ι e f =>
 let ⟨c,_,_,h⟩:=aBN e (aJ f d) i b
 ⟨c,h⟩
theorem aKV{D S e}{ob}{a rows'}(q:o.op=.call {callee:=.builtin .copy,args:=#[x,y],argTypes:=#[D,S]})(hS:fC P D e sz)
  (hd:aKM E H x id g off len) (m:H.get id=some ob) (p:ob.g=g) (k:ob.sz=sz) (d:off<=ob.rows.length)
  (f:aKK E H sz y b a) (i:∀r∈a,r.length=sz) (l:a.length=n) (h:min b len=n)
  (c:ob.rows.take off++(a++ob.rows.drop (off+n))=rows'):cU P N o E H (.pv (.int .i64 n)) ((id,⟨g,sz,ob.ty,rows'⟩)::H):=by
 subst c;exact aFD q hS hd m p k d f i l h (fun j=>uV _ _ _ j)
end
def XC(ob:Ob)(k:Nat):Ob:=⟨k,ob.sz,ob.ty,[]⟩
theorem Step.deadK{w}{I}{ι}{H}{id k}{ob}(g:H.get id=some ob)(i:ob.g<k):Step I ι H w (pI I ι id) (sX ι id) ((id,XC ob k)::H) w where
 os:=rfl
 tape:=rfl
 output:=rfl
 size:=aQK _
 froz:=fun _ _ _=>rfl
 imm:=fun _ h=>.inl h
 immNew:=fun b c=>by
  rcases c with c|⟨a,c⟩
  ·simp_all
  exact .inr (.inl ⟨id,ob,a,g,c⟩)
 own:=fun b c=>by
  obtain ⟨j,o,a,d,f⟩:=c;by_cases e:j=id
  ·rw[sX,aQD e]at f;cases f
  rw[sX,aQC e]at f;rw[get_cons_other _ _ e]at d;exact .inl ⟨j,o,a,d,f⟩
 keep:=fun _ _ _=>rfl
 objs:=fun j o d=>by
  by_cases e:j=id
  ·subst e;rw[g]at d;cases d;exact⟨XC _ k,get_cons_same _ _ _,Nat.le_of_lt i,fun h=>absurd h (by simp[XC];omega)⟩
  exact⟨o,by rw[get_cons_other _ _ e];exact d,aQK _,fun _=>⟨aQC e,rfl,fun _=>aQK _⟩⟩
theorem Rel.deadK{I}(g:Rel I ι H w)(s:H.get id=some ob)(D:ob.g<k)(q:0<ob.sz):Rel (pI I ι id) (sX ι id) ((id,XC ob k)::H) w:=by
 have t:=Step.deadK (w:=w) (I:=I) (ι:=ι) s D;refine⟨fun b d=>?_,fun j o f=>?_,fun j y o z b c B f n p i=>?_,g.glob.mono (fun _ _=>rfl) (fun _ h=>.inl h)⟩
 ·rcases d with d|⟨l,d⟩
  ·exact g.imm b d
  exact g.lt ⟨id,ob,l,s,d⟩
 ·by_cases e:j=id
  ·subst e;rw[get_cons_same]at f;cases f;exact .inl ⟨q,by simp[XC],.inr ⟨aQD rfl,rfl⟩⟩
  rw[get_cons_other _ _ e]at f;refine(g.obj j o f).keep (aQC e) (fun b l C _=>⟨rfl,fun h=>?_⟩) (fun r _ a _ v A=>A.mono g t);rintro(d|⟨m,d⟩)
  ·grind
  exact e (g.inj j id o ob b l m f s C d)
 have x:j≠id:=fun e=>by rw[sX,aQD e]at p;cases p
 have u:y≠id:=fun e=>by rw[sX,aQD e]at i;grind
 rw[sX,aQC x]at p;rw[sX,aQC u]at i;rw[get_cons_other _ _ x]at f;rw[get_cons_other _ _ u]at n;exact g.inj j y o z b c B f n p i
theorem Fin.deadO{G0 H}{r}(b:H.get id=some ob)(c:ob.g<k)(a:0<ob.sz)(h:ob.sz=sz)(f:ob.ty=ty):Fin G0 H r ((id,⟨k,sz,ty,[]⟩)::H) r:=by intro G hG I ι w v d e g;subst h f;exact⟨_,_,d.deadK b c a,e.trans (Step.deadK b c),g.mono d (Step.deadK b c)⟩
theorem Fin.bump{G0 H}{rows}(c:H.get id=some ob)(y:ob.g=g)(u:g<k)(l:ob.sz=sz)(s:ob.ty=ty)(x:ob.rows=rows):Fin G0 H (.osl id g off n) ((id,⟨k,sz,ty,rows⟩)::H) (.osl id k off n):=by
 intro G hG I m w v t h f;subst y l s x;obtain ⟨p,o⟩:=Rel.tick (ob':=⟨k,ob.sz,ob.ty,ob.rows⟩) t c u rfl rfl rfl (get_cons_same _ _ _) (fun j r=>get_cons_other _ _ r);refine⟨I,m,p,h.trans o,?_⟩;obtain ⟨i,d⟩:=jI f c rfl;have q:=oM f c rfl;have a:v.oneCell'=true:=by
  rcases d with⟨b,cap,oo,_,e,_⟩|⟨_,e,_⟩<;>subst e<;>rfl
 exact .osl _ (get_cons_same _ _ _) (aQK _) a fun _=>⟨q,i,d⟩
end
section
section
variable{P:Program}{G0:aH}{N:Nat}{Q:Exit->dG->aH->Prop}{E:dG}{code:Code}
theorem X7{t id sz}{ty}(r:E.get t=some (.pv .nils))(i:H.get id=none)(hsz:Nat.blt 0 sz=true)(h:gM P G0 N code Q ((t,.osc id 0 0 0 0)::E) ((id,⟨0,sz,ty,[]⟩)::H)):gM P G0 N code Q E H:=by
 intro G o a w d;obtain ⟨I,ι,l,j,n⟩:=d.rel;obtain ⟨v,s,f⟩:=n t _ r;have m:0<sz:=by simp_all
 obtain ⟨p,k⟩:=Rel.adopt l i m;have g:v=.slice none 0 0:=by
  have:=f.pv_inv;cases this;rfl
 subst g;refine h G o a w ⟨d.defers,d.size,I,_,p,j.trans k,fun u x b=>?_⟩;by_cases e:t=u
 ·subst e;rw[dG.get_cons_same]at b;cases b;exact⟨_,s,.osc _ (get_cons_same _ _ _) (aQK _) rfl fun _=>⟨m,aQK _,.inr ⟨by simp,rfl,rfl,rfl,rfl⟩⟩⟩
 rw[dG.get_cons_other _ _ e]at b;obtain ⟨c,q,y⟩:=n u x b;exact⟨c,q,y.mono l k⟩
end
section
variable{P:Program}{N:Nat}{o:Oper}{E:dG}{T:TypeId}{x y:Operand}{Q:AV->aH->Prop}
theorem TG{F}{f y}{e}{v}(p:o.op=.call {callee:=.value f,args:=#[.const (.slice none 0 0),y],argTypes:=e})(m:aR E f=some (.pv (.fn F)))
  (l:∀(args) (w),(callFunc F args).run P w=.ok (.enter F args) w) (n:aR E y=some v) (h:aI P F [.pv .nils,v] H Q):OpR P N o E H Q:=by
 intro a w I ι _ _ k j K QQ hk;have g:=(aJ j m).fn_inv;unfold Oper.wpW execOp;simp[p,resolve,g,Deferred.ofValue,Sem.run_bind,Sem.run_pure,Result.andThen_ok,invoke,l,Oper.uponW_enter];refine(h I _ w _ k (rfl) (fun i u b d c=>?_)).mono ?_
 ·match i with
  |0=>simp[Act.eval]at d c;subst d c;exact .pv .nils
  |1=>simp at d c;subst d c;exact aJ j n
  |i+2=>simp at c
 grind
end
theorem Rel.cut(g:Rel I ι H w)(y:H.get id=some ob)(hg:ob.g<k)(N:0<ob.sz)
  (R:H'.get id=some ⟨k,ob.sz,ob.ty,ob.rows.take n⟩) (F:∀j,j≠id->H'.get j=H.get j):Rel I ι H' w/\Step I ι H w I ι H' w:=by
 have f:Step I ι H w I ι H' w:=by
  refine⟨rfl,rfl,rfl,aQK _,fun a _ _=>rfl,fun _ h=>h,fun _ h=>.inl h,?_,fun _ _ _=>rfl,?_⟩
  ·rintro x ⟨j,o,c,d,s⟩;by_cases e:j=id
   ·subst e;exact .inl ⟨j,ob,c,y,s⟩
   exact .inl ⟨j,o,c,(F j e).symm.trans d,s⟩
  grind
 refine⟨⟨g.imm,?_,?_,f.glob g⟩,f⟩
 ·intro j o d;by_cases e:j=id
  ·subst e;rw[R]at d;cases d;obtain ⟨G,K,⟨b,E,O,z,L,V,Y,e5,C,S⟩|⟨z,L⟩⟩:=(g.obj j ob y).cells N
   ·refine .inl ⟨G,fun r l=>K r (List.mem_of_mem_take l),.inl ⟨b,E,O,z,L,V,Y,?_,C,fun i r D q a t=>?_⟩⟩
    ·grind
    simp only[List.getElem?_take]at D
    split at D
    ·obtain ⟨v,M,Q,W⟩:=S i r D q a t;exact⟨v,M,Q,W.mono g f⟩
    grind
   exact .inl ⟨G,fun r l=>K r (List.mem_of_mem_take l),.inr ⟨z,by simp_all⟩⟩
  rw[F j e]at d;exact(g.obj j o d).keep rfl (fun x c _ _=>⟨rfl,fun h=>h⟩) (fun r _ a _ v X=>X.mono g f)
 intro j J o U x c P d A s u;have m:∀j o,H'.get j=some o->∃o,H.get j=some o:=by
  intro j o d;by_cases e:j=id
  ·exact⟨ob,e▸y⟩
  exact⟨o,(F j e).symm.trans d⟩
 obtain ⟨q,t⟩:=m j o d;obtain ⟨T,B⟩:=m J U A;exact g.inj j J q T x c P t B s u
theorem Fin.trunc{G0 H}{rows}(c:H.get id=some ob)(t:ob.g=g)(o:g<k)(s:ob.sz=sz)(q:ob.ty=ty)(r:ob.rows.take n=rows):Fin G0 H (.osl id g 0 n) ((id,⟨k,sz,ty,rows⟩)::H) (.osl id k 0 n):=by
 intro G hG I u w v m x f;subst t s q r;have h:=oM f c rfl;obtain ⟨q1,d⟩:=jI f c rfl;obtain ⟨i,l⟩:=Rel.cut m c o h (get_cons_same _ _ _) (fun j p=>get_cons_other _ _ p);refine⟨I,u,i,x.trans l,?_⟩;have a:v.oneCell'=true:=by
  rcases d with⟨b,cap,oo,_,e,_⟩|⟨_,e,_⟩<;>subst e<;>rfl
 exact .osl _ (get_cons_same _ _ _) (aQK _) a fun _=>⟨h,by simp_all,d⟩
theorem aI.congrH{P}{f}{args}{H H1 H2}{b}(h:aI P f args H (fun r H'=>r=b/\H'=H1))(n:∀j,H2.get j=H1.get j):aI P f args H (fun r H'=>r=b/\H'=H2):=by intro I ι w vs l k p;refine(h I _ w _ l k p).mono ?_;rintro e w' ⟨r,H',g,a,v,rfl,⟨rfl,rfl⟩,o,d,i⟩;obtain ⟨m,c⟩:=d.congr n;exact⟨r,H2,g,a,v,rfl,⟨rfl,rfl⟩,o.mono d c,m,i.trans c⟩
theorem aI.frameS{P}{f}{args}{H0 H}{c}(h:aI P f args H0 (fun r H'=>r=c/\H'=H0))(b:Sub H0 H)(g:eI H0)(i:∀a∈args,Clo H0 a):aI P f args H (fun r H'=>r=c/\H'=H):=by
 refine(aI.frame h b g i (fun id d=>.inl d)).congrH fun j=>?_;rw[gD];cases e:H0.get j with
 |some o=>exact b j o e
 |none=>rfl
theorem Sub.of2{i j}{a b}{H}(h1:H.get i=some a)(h2:H.get j=some b):Sub [(i,a),(j,b)] H:=by
 intro id o c;simp[aH.get]at c;cases e1:Nat.beq i id with
 |true =>
  simp_all
 | false =>
  cases e2:Nat.beq j id with
  |true =>
   simp_all
  |false=>simp_all
end
section
theorem M6{w}{I}{ι}{H}{v}(h:VRel w I ι H v (.pv .nils)):v=.slice none 0 0:=by have:=h.pv_inv;cases this;rfl
section
variable{P:Program}{N:Nat}{o:Oper}{E:dG}{S T t t' e:TypeId}{x y:Operand}
theorem F6(f:o.op=.call {callee:=.builtin .cap,args:=#[x],argTypes:=#[T]})(d:P.underlying T=some (.slice e))(h:aR E x=some (.pv .nils)):cU P N o E H (.pv (.int .i64 0)) H :=.of_run fun a w I ι _ b=>⟨.int _ 0,by
  have c:=M6 (aJ b h);simp[execOp,f,resolve,invoke,builtin,c,Builtin.cap_,run_underlying d,goInt],.pv (.int _ _)⟩
theorem F5(f:o.op=.call {callee:=.builtin .len,args:=#[x],argTypes:=#[T]})(d:P.underlying T=some (.slice e))(h:aR E x=some (.pv .nils)):cU P N o E H (.pv (.int .i64 0)) H :=.of_run fun a w I ι _ b=>⟨.int _ 0,by
  have c:=M6 (aJ b h);simp[execOp,f,resolve,invoke,builtin,c,Builtin.len_,run_underlying d,goInt],.pv (.int _ _)⟩
theorem VI{sz}(c:aR E y=some (.pv .nils)):aKK E H sz y 0 []:=fun a w I ι hr b=>.inr ⟨M6 (aJ b c),rfl,rfl⟩
theorem U5{lo hi}{rows'}(D:o.op=.slice T x lo hi none)(hS:fC P T e sz)(M:aR E x=some (.osl id g 0 len))
  (i:H.get id=some ob) (z:ob.g=g) (q:ob.sz=sz) (l:bnd E lo 0=some ((0:Nat):Int)) (u:bnd E hi len=some (h:Int)) (Y:h<=len) (V:g+1=k) (d:ob.rows.take h=rows'):cU P N o E H (.osl id k 0 h) ((id,⟨k,sz,ob.ty,rows'⟩)::H):=by
 subst V d q;intro a w I G O m X W K Q s;refine D3 D hS.1 hS.2.1 M i z rfl l u (aQV _) Y rfl (Nat.sub_zero h) a w I G O m X W K Q ?_;rintro c U L ι' r H' ⟨rfl,rfl⟩ B v p;have C:=oM B i z;obtain ⟨q1,A⟩:=jI B i z;obtain ⟨F,R⟩:=Rel.cut (k:=g+1) v i (by omega) C (get_cons_same _ _ _) (fun j J=>get_cons_other _ _ J);have f:c.oneCell'=true:=by
  rcases A with⟨b,cap,oo,_,e,_⟩|⟨_,e,_⟩<;>subst e<;>rfl
 exact s c U L _ _ _ ⟨rfl,rfl⟩ (.osl _ (get_cons_same _ _ _) (aQK _) f fun _=>⟨C,by simp_all,A⟩) F (p.trans R)
theorem N0:∀(n t) (acc),(∀v∈acc.toList,v.oneCell'=true)->∀v∈(Extern.BytealgMakeNoZero.digits n t acc).toList,v.oneCell'=true
 |0,_,_,h=>h
 |n+1,t,acc,h=>by
  refine N0 n _ _ fun v a=>?_;rw[Array.toList_push,List.mem_append,aQH]at a;rcases a with a|rfl
  ·simp_all
  rfl
theorem Y8(w:World)(ps)(t e)(l:P.underlying t=some (.slice e))(n:Nat)(hn:n<=281474976710656):
  ∃cs,(Extern.BytealgMakeNoZero.makeNoZero ps #[t] #[.int .i64 n]).run P w=.ok (.slice (some ⟨w.heap.size,0,none⟩) n cs.size) (w.drew.drew.alloc (.cells cs e))/\n<=cs.size/\(n<=maxLen->cs.size<=maxLen)/\∀v∈cs.toList,v.oneCell'=true:=by
 have f:Extern.BytealgMakeNoZero.makeNoZero ps #[t] #[.int .i64 n] =
   (do
    let .slice d <-underlying t|stuck _
    if n<0||(n:Int) > 2 ^ 48 then runtimePanic _
    let c <-choose _
    askRoom c
    let bytes <-choose _
    let a <-newRow d (Extern.BytealgMakeNoZero.digits c bytes #[])
    pure (.slice (some a) _ c)):=rfl
 refine⟨Extern.BytealgMakeNoZero.digits (grownCap w n 0 e) ((Question.extern "internal/bytealg.MakeNoZero.bytes" 0).cut (w.tape (w.drawn+1) (.extern "internal/bytealg.MakeNoZero.bytes" 0))) #[],?_,?_,?_,?_⟩
 ·rw[f];have k:¬ (n:Int)<0:=by omega
  have j:¬ (281474976710656:Int)<(n:Int):=by omega
  simp[run_underlying l,k,j,Question.forced,newRow,Lib.size_digits,grownCap]
 ·rw[Lib.size_digits]
  simpa using grownCap_ge w n 0 e
 ·intro i;rw[Lib.size_digits]
  simpa using grownCap_le_maxLen w n 0 e i
 exact N0 _ _ _ (by simp)
theorem ZW{f:Operand}{u:Array TypeId}{F:FuncId}{q:Func}{ps:Array TypeId}{m:Int}(V:o.op=.call {callee:=.value f,args:=#[x],argTypes:=u})(Z:aR E f=some (.pv (.fn F)))(W:P.funcs[F]?=some q)(h:(q.name == "runtime.NumGoroutine")=false)
  (D:q.body.isNone=true) (O:Extern.findNext q=none) (he:Extern.find q=some (Extern.BytealgMakeNoZero.makeNoZero ps #[t])) (R:P.underlying t=some (.slice e)) (Y:aR E x=some (.pv (.int .i64 m))) (G:m=(n:Int)) (A:n<=140737488355328) (hid:H.get id=none) :
  cU P N o E H (.osl id 0 0 n) ((id,⟨0,1,e,List.replicate n [.any]⟩)::H):=by
 subst G;intro a w I ι _ _ hr C K Q X;have z:=(aJ C Z).fn_inv;have hxv:=(aJ C Y).int_inv;obtain ⟨d,e1,e2,e3,L⟩:=Y8 (P:=P) w ps t e R n (by omega);have B:=Rel.drawn (w':=w.drew.drew) hr rfl rfl rfl rfl;obtain ⟨U,d2⟩:=B;obtain ⟨k1,J⟩:=Rel.place (H':=(id,⟨0,1,e,List.replicate n [.any]⟩)::H) (id:=id) (cap:=d.size) (ob':=⟨0,1,e,List.replicate n [.any]⟩) (cs':=d) (w':=w.drew.drew.alloc (.cells d e)) U rfl rfl rfl rfl
  (fun o' ho'=>by simp_all) Nat.zero_lt_one (by simp) (by simp_all) (e3 (Nat.le_trans A (by decide))) (fun r hr'=>by simp_all) (fun i r v k b s=>by
   rw[List.getElem?_replicate]at v
   split at v
   ·cases v;cases k with
    |zero =>
     cases s;have p:i*1+0<d.size:=by omega
     exact⟨d[i*1+0],Array.getElem?_eq_getElem p,L _ (Array.getElem_mem_toList p),.any _⟩
    |succ k=>grind
   grind) (get_cons_same _ _ _) (fun j M=>get_cons_other _ _ M)
 unfold Oper.wpW;have l:(execOp a.eval o).run P w=.ok (.value (.slice (some ⟨w.heap.size,0,none⟩) n d.size)) (w.drew.drew.alloc (.cells d e)):=by
  unfold execOp;simp only[V,resolve,z,Deferred.ofValue,Sem.run_bind,Sem.run_pure,Result.andThen_ok,invoke,Array.empty_append,Array.append_empty,run_callFunc_extern W h D O he]
  simp_all
 rw[l];exact X _ _ I _ _ _ ⟨rfl,rfl⟩ (.osl ⟨0,1,e,List.replicate n [.any]⟩ (get_cons_same _ _ _) (aQK _) rfl fun _=>⟨Nat.zero_lt_one,by simp,.inl ⟨w.heap.size,d.size,0,by simp,by simp,fun _=>by simp⟩⟩) k1 (d2.trans J)
theorem aDr{lo hi X:Operand}{rows':List (List PV)}(ho:o.op=.slice T x (some lo) (some hi) (some X))(hS:fC P T e sz)(hx:aR E x=some (.pv (.sl rows)))(hrows:∀r∈rows,r.length=sz)
  (M:aR E lo=some (.pv (.int .i64 l))) (K:aR E hi=some (.pv (.int .i64 h))) (Q:aR E X=some (.pv (.int .i64 h))) (W:l<=h) (h2:h<=rows.length) (v:rows≠[]) (j:(rows.take h).drop l=rows'):cU P N o E H (.pv (.sl rows')) H:=by
 subst j;exact .of_run fun a w I ι _ D=>by
  have V:=(aJ D hx).pv_inv;have e0:=(aJ D M).int_inv;have Y:=(aJ D K).int_inv;have e2:=(aJ D Q).int_inv;generalize hc:a.eval x=c at V;have hT:=hS.1;have hs:=hS.2.1;have G:P.elem T=e:=by simp[Program.elem,hT]
  have B:P.underlying T=some (.slice (P.elem T)):=by simp_all
  cases V with
  |nilsl=>exact absurd rfl v
  |empsl a0=>exact absurd rfl v
  | sl b A s U _ cs hI J z hcap O F =>
   have C:U=sz:=by
    obtain ⟨r,rs,e⟩:=List.exists_cons_of_ne_nil v
    simp_all
   subst C;have Z:(Instr.sliceBounds true rows.length s (some (.int .i64 l)) (some (.int .i64 h)) (some (.int .i64 h))).run P w=.ok (l,h,h) w:=by
    have u:∀(n y:Nat) (c:BoundsCode),n<=y->(Instr.sliceBound (.int .i64 n) y c).run P w=.ok n w:=fun n y c hn=>by
     have:=run_sliceBound (P:=P) w .i64 n y c (by omega) (by omega)
     simpa using this
    simp[Instr.sliceBounds,u _ _ _ W,u _ _ _ (aQK h),u h s _ (by omega)]
   have htl:(rows.take h).length=h:=by simp_all
   have m:∀(i:Nat) (r:List PV),(rows.take h)[i]?=some r->rows[i]?=some r:=fun i r j=>by
    grind
   have q:=PRep.cut (w:=w) (I:=I) (b:=b) (off:=A) (cap:=h) (l:=l) (h:=h) (rows:=rows.take h) (cs:=cs) hI J (fun r j=>z r (List.mem_of_mem_take j)) (by omega)
    (fun i r j k p R=>O i r (m i r j) k p R) (fun i r j k p R=>F i r (m i r j) k p R) W (by omega)
   rw[List.take_take,Nat.min_self]at q;refine⟨_,?_,.pv q⟩;simp only[execOp,ho,hc];have:=run_slice_any (P:=P) w T (some ⟨b,A,none⟩) rows.length s B (some (.int .i64 l)) (some (.int .i64 h)) (some (.int .i64 h));simp only[Option.map_some,run_sliceAt_slice w T _ _ _ _ B,e0,Y,e2,Sem.run_bind,this,Z,G,hs,sliced,Result.andThen_ok,Sem.run_pure];by_cases ec:h=l<;>simp[ec]
end
end
end Go.Abs
namespace Go.Proofs.YtmdicgjnmfolfaaGreatDoor
open Go.Proofs.Tryz
open Go.Abs
variable{g n i j k id h:Nat}{a b a' b':Ob}{K:aH}{s sep x t:ByteArray}{l:List ByteArray}{α:Type}{o:GObj}{e:GEdit}
def X6(u:Bool):AV:=if u then .ref 2001 0 0 0 else .pv .nilp
def xZ(buf:AV)(u:Bool):Ob:=⟨0,2,137,[[X6 u,buf]]⟩
def wI(g:Nat)(l:List UInt8)(u:Bool):aH:=[(2001,xZ (.osl 2002 g 0 l.length) u),(2002,⟨g,1,5,eR l⟩)]
theorem qI(l:List UInt8):(eR l).length=l.length:=by simp[eR]
theorem eO(H:aH)(l:List UInt8):∀r∈eR l,∀a∈r,Clo H a:=by intro r hr a ha;obtain ⟨b,_,rfl⟩:=List.mem_map.1 hr;rw[aQH]at ha;subst ha;simp
theorem rZ(l m:List UInt8):eR l++eR m=eR (l++m):=by simp[eR]
theorem gF{H:aH}{u:Bool}(h1:(H.get 2001).isSome=true)(h2:(H.get 2002).isSome=true):∀r∈(xZ (.osl 2002 g 0 n) u).rows,∀a∈r,Clo H a:=by
 intro r hr a ha;simp only[xZ,aQH]at hr;subst hr;simp only[aQQ,aQU,or_false]at ha;rcases ha with rfl|rfl
 ·cases u<;>simp[X6,h1]
 simp[h2]
theorem CT(buf:AV)(u:Bool)(K:aH):aI Tryz.prog 147 [.ref 2001 0 0 0] ((2001,xZ buf u)::K) (fun r H'=>r=.tup []/\H'=(2001,xZ buf true)::K):=by
 cases u with
 |false =>
  refine Bd aD7 rfl YI<|Sr<|Dd aE<|Dd BR<|Dd (aT xF)<|Dd (bF BO)<|Dd (by exact JL rfl gJ rfl rfl)<|Zz ?_;refine Cn ?_ ?_<;>intro hc1
  ·refine Rg<|Dd aE<|Dd aE<|Dd (by exact D2 (n:=1) rfl gJ E8 (by kernel_rfl) rfl rfl rfl (by simp[xZ]))<|Dd (by exact KV rfl rfl func182 rfl rfl rfl rfl rfl (XG (.ref 2001 0 0 0)))<|Dd (by exact J1 (n:=1) rfl E8 gJ (by kernel_rfl) rfl rfl rfl (by simp[xZ]) rfl rfl)<|Dd BR<|Dd (aT xF)<|Uu (by exact bG rfl aMC rfl rfl rfl rfl rfl rfl (aQR rfl) rfl rfl)<|Zz ?_;exact sY (.inl rfl) rfl (Fin.get' (H':=(2001,xZ buf true)::K) (fun j=>xE 2001 (xZ buf true) (xZ buf false) K j)) ⟨rfl,rfl⟩
  cases hc1
 |true =>
  refine Bd aD7 rfl YI<|Sr<|Dd aE<|Dd BR<|Dd (aT xF)<|Dd (bF BO)<|Dd (by exact JK rfl gJ rfl rfl rfl rfl)<|Zz ?_;refine Cn ?_ ?_<;>intro hc1
  ·cases hc1
  refine Sr<|Dd aE<|Dd BR<|Dd (aT xF)<|Dd (bF BO)<|Dd aE<|Dd (by exact F3 (n:=1) rfl gJ (by kernel_rfl) rfl rfl rfl rfl)<|Zz ?_;refine Cn ?_ ?_<;>intro hc2
  ·cases hc2
  refine aC ?_;exact sY (.inl rfl) rfl Fin.refl ⟨rfl,rfl⟩
theorem GK(h:i≠j)(k:Nat):aH.get ((i,a)::(j,b)::K) k=aH.get ((i,a)::(j,b)::(i,a')::(j,b')::K) k:=by
 simp only[aH.get];cases e1:Nat.beq i k with
 |true=>rfl
 |false=>cases e2:Nat.beq j k<;>simp
theorem KC:∀i,Tryz.prog.info? 5=some i->i.zero=some (.int .u8 0):=fun i hi=>by
 have h:(Tryz.prog.info? 5).map (·.zero)=some (some (.int .u8 0)):=by kernel_rfl
 rw[hi]at h;exact Option.some.inj h
theorem aBi(g:Nat)(l m:List UInt8)(h:m.length=n):wI (g+1) (l++m) true=[(2001,xZ (.osl 2002 (g+1) 0 (l.length+n)) true),(2002,⟨g+1,1,5,eR (l++m)⟩)]:=by subst h;simp[wI]
theorem jE(g:Nat)(l:List UInt8)(u:Bool)(c:UInt8)(hl:l.length<70368744177664):aI Tryz.prog 110 [.ref 2001 0 0 0,.pv (.int .u8 c.toNat)] (wI g l u) (fun r H'=>r=.pv H4/\H'=wI (g+1) (l++[c]) true):=by refine Bd func110 rfl ntmps110<|Sr<|Dd aM<|Zz<|Sr<|Dd aE<|Dd (by exact aA rfl rfl OM rfl (CT _ u _))<|Zz<|Sr<|Dd aE<|Dd aE<|Dd BR<|Dd (aT gL)<|Dd (bF dW)<|Dd aE<|Dd (by exact aQ [[.int .u8 c.toNat]] rfl yN rfl rfl rfl rfl rfl (by intro r hr;rw[aQH]at hr;subst hr;rfl))<|Dd (by exact cJ (ps:=[[.int .u8 c.toNat]]) rfl yN ei5 rfl rfl rfl rfl rfl (qI l) rfl (by intro r hr;rw[aQH]at hr;subst hr;rfl) (m:=1) rfl (by omega) rfl (rZ l [c]))<|Dd BR<|Dd (aT gL)<|Uu (by exact bG rfl oT rfl rfl rfl rfl rfl rfl (aQR rfl) rfl rfl)<|Zz<|Sr<|Dd aM<|Zz<|aB ?_;rw[aBi g l [c] (n:=1) rfl];refine dV (H':=[(2001,xZ (.osl 2002 (g+1) 0 (l.length+1)) true),(2002,⟨g+1,1,5,eR (l++[c])⟩)]) (.inr rfl) rfl (aX rfl) (Fin.get' (fun j=>GK (by decide) j)) ?_;exact Qq
theorem jD(g:Nat)(l:List UInt8)(u:Bool)(s:ByteArray)(hl:l.length+s.size<70368744177664):aI Tryz.prog 109 [.ref 2001 0 0 0,sv s] (wI g l u) (fun r H'=>r=.tup [iv (s.size:Int),.pv H4]/\H'=wI (g+1) (l++s.data.toList) true):=by refine Bd func109 rfl ntmps109<|Sr<|Dd aM<|Dd aM<|Zz<|Sr<|Dd aE<|Dd (by exact aA rfl rfl OM rfl (CT _ u _))<|Zz<|Sr<|Dd aE<|Dd aE<|Dd BR<|Dd (aT gL)<|Dd (bF dW)<|Dd aE<|Dd (by exact tR rfl yN underlying9 ei5 KC rfl rfl rfl rfl rfl (qI l) rfl (by omega) rfl (rZ l s.data.toList))<|Dd BR<|Dd (aT gL)<|Uu (by exact bG rfl oT rfl rfl rfl rfl rfl rfl (aQR rfl) rfl rfl)<|Zz<|Sr<|Dd aE<|Dd (kG underlying9)<|Dd aM<|Dd aM<|Zz<|aB ?_;rw[aBi g l s.data.toList (n:=s.size) rfl];refine mQ (H':=[(2001,xZ (.osl 2002 (g+1) 0 (l.length+s.size)) true),(2002,⟨g+1,1,5,eR (l++s.data.toList)⟩)]) (.inr rfl) rfl (aX rfl) (aX rfl) (Fin.get' (fun j=>GK (by decide) j)) ?_;exact Qq
def aDV(g:Nat)(l:List UInt8)(u:Bool):aH:=[(2002,⟨g+1,1,5,[]⟩),(2001,xZ (.osl 2002 g 0 l.length) u)]
theorem K3(h:i≠j)(k:Nat):aH.get ((i,a)::(j,b)::K) k=aH.get ((i,a)::(j,b)::(i,a')::K) k:=by
 simp only[aH.get];cases e1:Nat.beq i k with
 |true=>rfl
 |false=>cases e2:Nat.beq j k<;>simp
theorem QA(g:Nat)(l:List UInt8)(u:Bool)(hl:l.length<70368744177664):aI Tryz.prog 111 [.ref 2001 0 0 0] (wI g l u) (fun r H'=>r=sv ⟨l.toArray⟩/\H'=aDV g l u):=by
 by_cases h0:l=[]
 ·subst h0;refine Bd aD9 rfl YK<|Sr<|Dd aM<|Zz<|Sq<|aO follows<|Cq aE<|Cq BR<|Cq (aT gL)<|Cq (bF dW)<|Cq (by exact B8 rfl wF rfl rfl rfl)<|Cq aE<|Cq BR<|Cq (aT gL)<|Cq (bF dW)<|Cq (by exact eG rfl dL rfl rfl rfl)<|Cq (by exact wZ rfl rfl rfl)<|Cq aM<|bM<|Kr<|aB ?_;refine dV (H':=(aDV g [] u)) (.inr rfl) rfl (aX rfl) (Fin.trans (Fin.deadO (id:=2002) (k:=g+1) (ob:=⟨g,1,5,eR []⟩) rfl (Nat.lt_succ_self g) Nat.zero_lt_one rfl rfl) (Fin.get' (fun j=>K3 (by decide) j))) ?_;exact Qq
 have hpos:0<l.length:=List.length_pos_iff.2 h0;refine Bd aD9 rfl YK<|Sr<|Dd aM<|Zz<|Sq<|aO follows<|Cr [2001] (fun _ _=>aE)<|Cr [2001] (fun H1 hH=>by exact fU rfl rfl ((hH _ rfl).trans rfl) rfl)<|Cr [2001] (fun _ h=>fh gL h)<|Cr [2001] (fun _ h=>lh dW h)<|Cr [2002] (fun H1 hH=>by exact D4 rfl rfl ((hH _ rfl).trans rfl) rfl hpos)<|Cr [2001] (fun _ _=>aE)<|Cr [2001] (fun H1 hH=>by exact fU rfl rfl ((hH _ rfl).trans rfl) rfl)<|Cr [2001] (fun _ h=>fh gL h)<|Cr [2001] (fun _ h=>lh dW h)<|Cr [2002] (fun H1 hH=>by exact eG rfl dL rfl ((hH _ rfl).trans rfl) rfl)<|Cp [2001,2002] (fun H1 hH=>by exact yV (l:=l) rfl wF (by kernel_rfl) rfl rfl ((hH _ rfl).trans rfl) rfl rfl rfl rfl rfl hpos (by omega) rfl)<|Cr [] (fun _ _=>aM)<|bM<|Kr<|aB ?_;refine dV (H':=(aDV g l u)) (.inr rfl) rfl (aX rfl) (Fin.get' (fun j=>K3 (by decide) j)) ?_;exact Qq
def aAZ:aH:=[(2001,xZ (.pv .nils) false)]
theorem aL9(m n:Nat)(hn:m=n)(hl:n<70368744177664):aI Tryz.prog 239 [.ref 2001 0 0 0,iv (n:Int)] [(2001,xZ (.pv .nils) true)] (fun r H'=>r=.tup []/\H'=wI 1 [] true):=by refine Bd func239 rfl ntmps239<|Sq<|aO follows<|Cr [2001] (fun _ _=>aE)<|Cr [2001] (fun H1 hH=>by exact fU rfl rfl ((hH _ rfl).trans rfl) rfl)<|Cr [2001] (fun _ h=>fh gL h)<|Cr [2001] (fun _ h=>lh dW h)<|Cr [] (fun H1 hH=>by exact F6 rfl dL rfl)<|Cr [] (fun H1 hH=>by exact mB rfl rfl rfl (by exact jM (by omega) (by omega)))<|Cr [] (fun _ _=>aE)<|Cr [] (fun H1 hH=>by exact cB rfl rfl rfl (show IntKind.i64.wrap (0+(n:Int))=(n:Int)by rw[IntKind.wrap_i64];omega))<|Cp [2002] (fun H1 hH=>by exact ZW (id:=2002) (n:=n) rfl rfl func266 (by decide) rfl rfl rfl dL rfl rfl (by omega) ((hH _ rfl).trans rfl))<|Cr [2001] (fun _ _=>aE)<|Cr [2001] (fun H1 hH=>by exact fU rfl rfl ((hH _ rfl).trans rfl) rfl)<|Cr [2001] (fun _ h=>fh gL h)<|Cr [2001] (fun _ h=>lh dW h) ?_;refine Cr [] (fun H1 hH=>by exact F5 rfl dL rfl)<|Cp [2002] (fun H1 hH=>by exact U5 (h:=0) (k:=1) (rows':=[]) rfl yN rfl ((hH _ rfl).trans rfl) rfl rfl rfl rfl (aQV _) rfl rfl)<|Cr [] (fun _ _=>aM)<|bM<|Kr<|Sr<|Dd aE<|Dd aE<|Dd BR<|Dd (aT gL)<|Dd (bF dW)<|Dd (by exact aKV (rows':=[]) rfl yN (aAR rfl rfl rfl) rfl rfl rfl (aQV _) (VI rfl) (by simp) rfl rfl rfl)<|Zz<|Rg<|Dd aE<|Dd aE<|Dd BR<|Dd (aT gL)<|Uu (by exact bG rfl oT rfl rfl rfl rfl rfl rfl (aQR rfl) rfl rfl)<|Zz ?_;exact sY (H':=wI 1 [] true) (.inl rfl) rfl (Fin.wk (by(simp;done)) (Hc (gF rfl rfl)<|Hc (eO _ _)<|trivial) ⟨rfl,trivial⟩) ⟨rfl,rfl⟩
theorem aIq(n:Nat)(h0:0<n)(hl:n<70368744177664):aI Tryz.prog 198 [.ref 2001 0 0 0,iv (n:Int)] aAZ (fun r H'=>r=.tup []/\H'=wI 1 [] true):=by
 refine Bd func198 rfl ntmps198<|Sr<|Dd aE<|Dd (by exact aA rfl rfl OM rfl (CT _ false _))<|Zz<|Sq<|Sr<|Dd aE<|Dd cW<|Zz ?_;refine Cn ?_ ?_<;>intro hc1
 ·exact absurd (aQA hc1) (by omega)
 refine aC<|Sq<|aO follows<|Cq aE<|Cq BR<|Cq (aT gL)<|Cq (bF dW)<|Cq (by exact F6 rfl dL rfl)<|Cq aE<|Cq BR<|Cq (aT gL)<|Cq (bF dW)<|Cq (by exact F5 rfl dL rfl)<|Cq (by exact dX rfl rfl rfl (by exact jM (by omega) (by omega)))<|Cq aE<|Cq cW<|bM<|Kr ?_;refine Cn ?_ ?_<;>intro hc2
 ·refine Rg<|Dd aE<|Dd aE<|Dd (by exact aA rfl rfl call239 rfl (aL9 n n rfl hl))<|Zz ?_;exact sY (H':=wI 1 [] true) (.inl rfl) rfl (Fin.wk (by(simp;done)) (Hc (gF rfl rfl)<|Hc (eO _ _)<|trivial) ⟨rfl,trivial⟩) ⟨rfl,rfl⟩
 exact absurd (aQB hc2) (by omega)
def xK(s:ByteArray)(k:Nat):UInt8:=(s.data.toList[k]?).getD 0
theorem wA(s:ByteArray)(k:Nat):cR s k=((xK s k).toNat:Int):=rfl
def nW(b:UInt8):List UInt8:=if b=10 then[92,110]else if b=34\/b=92 then[92,b]else[b]
def eE(l:List UInt8):List UInt8:=34::(l.flatMap nW++[34])
theorem aIz(b:UInt8):(nW b).length<=2:=by
 unfold nW
 split
 ·exact aQK _
 split
 ·exact aQK _
 exact Nat.le_succ _
theorem XI(l:List UInt8):(l.flatMap nW).length<=2*l.length:=by
 induction l with
 |nil=>exact aQV _
 |cons b l ih =>
  rw[List.flatMap_cons,aQF,aQG];have:=aIz b;omega
theorem aEG(h:k<s.size):s.data.toList.take (k+1)=s.data.toList.take k++[xK s k]:=by
 have hk:k<s.data.toList.length:=by simpa using h
 rw[List.take_add_one,aQJ hk,xK,aQJ hk];rfl
theorem LJ{b:UInt8}(hn:n<256):decide ((b.toNat:Int)=(n:Int))=decide (b=UInt8.ofNat n):=by
 rw[Bool.eq_iff_iff,aQL,aQL];constructor
 ·intro h;have:b.toNat=n:=by omega
  apply UInt8.toNat.inj;rw[this,UInt8.toNat_ofNat'];omega
 intro h;rw[h,UInt8.toNat_ofNat'];omega
theorem cX.bld0{E E':dG}(hE:NzE E [(2002,⟨0,1,5,[]⟩),(2001,xZ (.osl 2002 0 0 0) false)] 2002 E'):cX [] E aAZ E' (wI 0 [] false):=by refine(cX.nz (G0:=[]) (H:=aAZ) (H':=[(2001,xZ (.osl 2002 0 0 0) false)]) 2002 1 5 rfl rfl hE ⟨⟨xZ (.pv .nils) false,rfl,rfl,rfl,rfl,.inr ⟨_,_,rfl,rfl,⟨.same (by simp[X6]),⟨.own,trivial⟩⟩⟩⟩,trivial⟩ trivial).trans ?_;exact cX.get (fun _=>rfl) (fun j=>oZ (by decide) j)
def kE(s:ByteArray)(k:Nat):List UInt8:=34::(s.data.toList.take k).flatMap nW
theorem WC(hs:s.size<17592186044416):(kE s k).length<70368744170000:=by
 have:=XI (s.data.toList.take k);rw[aQS]at this;have h2:s.data.toList.length=s.size:=by simp
 rw[kE,aQG];omega
theorem QO(h:k<s.size):kE s (k+1)=kE s k++nW (xK s k):=by rw[kE,kE,aEG h,List.flatMap_append];simp
theorem aBK(s:ByteArray)(H:aH)(hs:s.size<17592186044416):aI Tryz.prog 203 [sv s] H (fun r H'=>r=sv ⟨(eE s.data.toList).toArray⟩/\H'=H):=by
 refine Pu ?_;have hsl:s.data.toList.length=s.size:=by simp
 refine Bd func203 rfl ntmps203<|Sr<|Dd aM<|Zz<|Sr<|Dd (by exact bU (id:=2001) rfl HH rfl rfl)<|Zz<|Sq ?_;refine gM.ent (E':=[(0,sv s),(3,.ref 2001 0 0 0)]) (H':=wI 0 [] false) (cX.bld0 ⟨⟨_,rfl,.same (by simp)⟩,⟨_,rfl,.same (by simp;rfl)⟩,trivial⟩) ?_;refine Rg<|Dd (by exact aA rfl rfl lO rfl (jE 0 [] false 34 (by decide)))<|Zz<|Sq<|Sr<|Dd aE<|Dd (kG underlying9)<|Dd aE<|Zz<|aF ?_;refine jK (fun(k g:Nat)=>([(0,sv s),(3,.ref 2001 0 0 0),(8,iv (s.size:Int)),(9,iv (k:Int))],wI g (kE s k) true)) (fun k g=>k<=s.size) (fun k g=>s.size - k) 0 1 (aQV _) ?_ ?_
 ·exact(cX.wk (Eb<|Ea<|Eb<|Eb<|trivial) (Hc (gF rfl rfl)<|Hc (eO _ _)<|trivial) trivial)
 intro k g hk;have hL:=WC (k:=k) hs;refine Sr<|Dd cW<|Zz<|Sq ?_;refine Cn ?_ ?_<;>intro hc1
 ·have hlt:k<s.size:=by have:=aQA hc1;omega
  have hnext:=QO hlt;refine aC<|Sq<|aF<|Sr<|Dd aE<|Dd aM<|Zz<|Sr<|Dd aE<|Dd aE<|Dd (by exact dK rfl underlying9 rfl rfl (by omega) (by exact aQP _) (by omega) rfl)<|Dd aM<|Zz<|Sr<|Dd aE<|Zz<|aF<|Sr<|Dd cN<|Da ?_;refine Cn ?_ ?_<;>intro hc2
  ·have hb:xK s k=10:=by
    have h:=hc2;rw[wA,show (10:Int)=((10:Nat):Int)by rfl,LJ (by decide)]at h;exact aQA h
   have hE:wI (g+1) (kE s (k+1)) true=wI (g+1) (kE s k++(⟨#[92,110]⟩:ByteArray).data.toList) true:=by rw[hnext,hb];rfl
   refine Rg<|Dd (by exact aA rfl rfl nL rfl (jD g (kE s k) true ⟨#[92,110]⟩ (by show _+2<_;omega)))<|Zz<|Rg<|Dd mV<|Dd aE<|Zz ?_;refine⟨k+1,g+1,by omega,by omega,?_⟩;show cX _ _ _ _ (wI (g+1) (kE s (k+1)) true);rw[hE];exact(cX.wk (Eb<|Ea<|Eb<|Eb<|trivial) (Hc (gF rfl rfl)<|Hc (eO _ _)<|trivial) trivial)
  have hb10:¬ xK s k=10:=by
   have h:=hc2;rw[wA,show (10:Int)=((10:Nat):Int)by rfl,LJ (by decide)]at h;exact aQB h
  refine Sq<|Sr<|Dd cN<|Da ?_;refine Cn ?_ ?_<;>intro hc3
  ·have hb:xK s k=34:=by
    have h:=hc3;rw[wA,show (34:Int)=((34:Nat):Int)by rfl,LJ (by decide)]at h;exact aQA h
   have hE:wI (g+1+1) (kE s (k+1)) true=wI (g+1+1) (kE s k++[92]++[xK s k]) true:=by rw[hnext,hb];simp[nW]
   refine aC ?_;refine Cn ?_ ?_<;>intro hc4
   ·refine Sr<|Dd (by exact aA rfl rfl lO rfl (jE g (kE s k) true 92 (by omega)))<|Zz<|Rg<|Dd aE<|Dd (by exact aA rfl rfl lO rfl (jE (g+1) (kE s k++[92]) true (xK s k) (by rw[aQF,List.length_singleton];omega)))<|Zz<|Rg<|Dd mV<|Dd aE<|Zz ?_;refine⟨k+1,g+1+1,by omega,by omega,?_⟩;show cX _ _ _ _ (wI (g+1+1) (kE s (k+1)) true);rw[hE];exact(cX.wk (Eb<|Ea<|Eb<|Eb<|trivial) (Hc (gF rfl rfl)<|Hc (eO _ _)<|trivial) trivial)
   exact absurd (hc3.symm.trans hc4) (by decide)
  have hb34:¬ xK s k=34:=by
   have h:=hc3;rw[wA,show (34:Int)=((34:Nat):Int)by rfl,LJ (by decide)]at h;exact aQB h
  refine Rg<|Dd cN<|Da ?_;refine Cn ?_ ?_<;>intro hc5
  ·have hb:xK s k=92:=by
    have h:=hc5;rw[wA,show (92:Int)=((92:Nat):Int)by rfl,LJ (by decide)]at h;exact aQA h
   have hE:wI (g+1+1) (kE s (k+1)) true=wI (g+1+1) (kE s k++[92]++[xK s k]) true:=by rw[hnext,hb];simp[nW]
   refine Sr<|Dd (by exact aA rfl rfl lO rfl (jE g (kE s k) true 92 (by omega)))<|Zz<|Rg<|Dd aE<|Dd (by exact aA rfl rfl lO rfl (jE (g+1) (kE s k++[92]) true (xK s k) (by rw[aQF,List.length_singleton];omega)))<|Zz<|Rg<|Dd mV<|Dd aE<|Zz ?_;refine⟨k+1,g+1+1,by omega,by omega,?_⟩;show cX _ _ _ _ (wI (g+1+1) (kE s (k+1)) true);rw[hE];exact(cX.wk (Eb<|Ea<|Eb<|Eb<|trivial) (Hc (gF rfl rfl)<|Hc (eO _ _)<|trivial) trivial)
  have hb92:¬ xK s k=92:=by
   have h:=hc5;rw[wA,show (92:Int)=((92:Nat):Int)by rfl,LJ (by decide)]at h;exact aQB h
  have hE:wI (g+1) (kE s (k+1)) true=wI (g+1) (kE s k++[xK s k]) true:=by rw[hnext,nW,aQC hb10,aQC (fun h=>h.elim hb34 hb92)]
  refine Rg<|Dd aE<|Dd (by exact aA rfl rfl lO rfl (jE g (kE s k) true (xK s k) (by omega)))<|Zz<|Rg<|Dd mV<|Dd aE<|Zz ?_;refine⟨k+1,g+1,by omega,by omega,?_⟩;show cX _ _ _ _ (wI (g+1) (kE s (k+1)) true);rw[hE];exact(cX.wk (Eb<|Ea<|Eb<|Eb<|trivial) (Hc (gF rfl rfl)<|Hc (eO _ _)<|trivial) trivial)
 have hge:k=s.size:=by have:=aQB hc1;omega
 refine aW<|Sr<|Dd (by exact aA rfl rfl lO rfl (jE g (kE s k) true 34 (by omega)))<|Zz<|Sr<|Dd (by exact aA rfl rfl nK rfl (QA (g+1) (kE s k++[34]) true (by rw[aQF,List.length_singleton];omega)))<|Dd aM<|Zz<|aB ?_;have hres:(⟨(kE s k++[34]).toArray⟩:ByteArray)=⟨(eE s.data.toList).toArray⟩:=by
  rw[kE,eE,hge,List.take_of_length_le (by omega)];rfl
 rw[<-hres];exact Rt Qq
def bZ(sep:List UInt8):List (List UInt8)->List UInt8
 | []=>[]
 |x::l=>x++l.flatMap (fun y=>sep++y)
def bs(l:List ByteArray):List (List UInt8):=l.map fun s=>s.data.toList
def dC(l:List ByteArray):Nat:=(l.map ByteArray.size).sum
theorem uS(h:l[k]?=some s):dC (l.take (k+1))=dC (l.take k)+s.size:=by rw[List.take_add_one,h,dC,dC,List.map_append,List.sum_append];simp
theorem mM(l:List ByteArray)(k:Nat):dC (l.take k)<=dC l:=by
 have h:dC l=dC (l.take k)+dC (l.drop k):=by
  rw[dC,dC,dC,<-List.sum_append,<-List.map_append,List.take_append_drop]
 omega
theorem W4(sep:List UInt8):∀l:List ByteArray,((bs l).flatMap (fun y=>sep++y)).length=sep.length*l.length+dC l
 | []=>by simp[bs,dC]
 |s::l=>by
  have ih:=W4 sep l;show (((s.data.toList)::bs l).flatMap (fun y=>sep++y)).length=_;rw[List.flatMap_cons,aQF,ih,aQF,aQG,Nat.mul_add,dC,dC,List.map_cons,List.sum_cons];have h2:s.data.toList.length=s.size:=by simp
  omega
def IG(sep x:ByteArray)(l:List ByteArray)(k:Nat):List UInt8:=x.data.toList++(bs (l.take k)).flatMap (fun y=>sep.data.toList++y)
theorem aCu(h:l[k]?=some s):IG sep x l (k+1)=IG sep x l k++(sep.data.toList++s.data.toList):=by rw[IG,IG,List.take_add_one,h,bs,List.map_append,List.flatMap_append];simp[bs]
theorem aEU(h:s∈l):s.size<=dC l:=by
 induction l with
 |nil=>cases h
 |cons a l ih =>
  rw[dC,List.map_cons,List.sum_cons];rcases aQQ.1 h with rfl|h
  ·exact Nat.le_add_right _ _
  exact Nat.le_trans (ih h) (Nat.le_add_left _ _)
theorem W6(hk:k<=l.length):(IG sep x l k).length<=x.size+sep.size*l.length+dC l:=by
 rw[IG,aQF,W4,aQS,Nat.min_eq_left hk];have h1:=mM l k;have h2:sep.data.toList.length=sep.size:=by simp
 have h3:x.data.toList.length=x.size:=by simp
 have h4:sep.size*k<=sep.size*l.length:=Nat.mul_le_mul_left _ hk;rw[h2];omega
theorem uB(l:List ByteArray)(sep:ByteArray)(H:aH)(h0:0<sep.size)(hl:sep.size*l.length+dC l+l.length<17592186044416):aI Tryz.prog 158 [.pv (aZ l),sv sep] H (fun r H'=>r=sv ⟨(bZ sep.data.toList (bs l)).toArray⟩/\H'=H):=by
 refine Pu ?_;have hml:(l.map encStr).length=l.length:=aQE _;rcases l with _|⟨x,_|⟨y,l⟩⟩
 ·refine Bd aPK rfl aNy<|Sr<|Dd aM<|Zz<|Sq<|Sr<|Dd aE<|Dd (fM aD)<|Zz<|aF<|Sr<|Dd cN<|Da ?_;refine Cn ?_ ?_<;>intro hc1
  ·exact Sr<|Dd aM<|Zz<|aB<|Rt<|Qq
  cases hc1
 ·refine Bd aPK rfl aNy<|Sr<|Dd aM<|Zz<|Sq<|Sr<|Dd aE<|Dd (fM aD)<|Zz<|aF<|Sr<|Dd cN<|Da ?_;refine Cn ?_ ?_<;>intro hc1
  ·cases hc1
  refine Sr<|Dd cN<|Da ?_;refine Cn ?_ ?_<;>intro hc2
  ·refine Sr<|Dd aE<|Dd (by exact bH rfl cC rfl rfl (by omega) (by exact aQP _) rfl rfl)<|Dd (iN isAgg9 (hi:=rfl))<|Dd aM<|Zz<|aB ?_;have hx:x=⟨(bZ sep.data.toList (bs [x])).toArray⟩:=by simp[bZ,bs]
   rw[<-hx];exact Rt Qq
  cases hc2
 have hll:((x::y::l).map encStr).length=l.length+2:=by rw[hml];rfl
 have hn2:(x::y::l).length=l.length+2:=rfl;rw[hn2]at hl;have hmul:sep.size*(l.length+2)=sep.size*(l.length+1)+sep.size:=by rw[<-Nat.mul_succ]
 obtain ⟨M,hMT⟩:∃M,M=sep.size*(l.length+1):=⟨_,rfl⟩;rw[<-hMT]at hmul;rw[hmul]at hl;have hdiv:sep.size+1<=9223372036854775807 / (l.length+1):=by
  rw[Nat.le_div_iff_mul_le (Nat.succ_pos _),Nat.add_mul,<-hMT];omega
 have hdl:9223372036854775807 / (l.length+1)<=9223372036854775807:=Nat.div_le_self _ _;have hMp:0<M:=by rw[hMT];exact Nat.mul_pos h0 (Nat.succ_pos _)
 have hsz:∀k,dC ((x::y::l).take k)<=dC (x::y::l):=mM _;refine Bd aPK rfl aNy<|Sr<|Dd aM<|Zz<|Sq<|Sr<|Dd aE<|Dd (fM aD)<|Zz<|aF<|Sr<|Dd cN<|Da ?_;refine Cn ?_ ?_<;>intro hc1
 ·exact absurd (aQA hc1) (by rw[hll];omega)
 refine Sr<|Dd cN<|Da ?_;refine Cn ?_ ?_<;>intro hc2
 ·exact absurd (aQA hc2) (by rw[hll];omega)
 refine aC<|Sr<|Dd aM<|Zz<|Sq<|Sr<|Dd aE<|Dd (kG underlying9)<|Dd iG<|Zz ?_;refine Cn ?_ ?_<;>intro hc3
 ·refine Sq<|Sr<|Dd aE<|Dd (kG underlying9)<|Dd aE<|Dd (fM aD)<|Dd (by exact dX rfl rfl rfl (show IntKind.i64.wrap ((((x::y::l).map encStr).length:Int) - 1)=((l.length+1:Nat):Int)by rw[IntKind.wrap_i64,hll];omega))<|Dd (by exact sD (r:=((9223372036854775807 / (l.length+1):Nat):Int)) rfl rfl rfl (by omega) (by rw[show (9223372036854775807:Int)=((9223372036854775807:Nat):Int)by rfl,<-Int.ofNat_tdiv,IntKind.wrap_i64];omega))<|Dd D7<|Zz ?_;refine Cn ?_ ?_<;>intro hc4
  ·exact absurd (aQA hc4) (by omega)
  refine aC<|Rg<|Dd aE<|Dd aE<|Dd (kG underlying9)<|Dd aE<|Dd (fM aD)<|Dd (by exact dX rfl rfl rfl (show IntKind.i64.wrap ((((x::y::l).map encStr).length:Int) - 1)=((l.length+1:Nat):Int)by rw[IntKind.wrap_i64,hll];omega))<|Dd (by exact mB rfl rfl rfl (show IntKind.i64.wrap ((sep.size:Int)*((l.length+1:Nat):Int))=(M:Int)by rw[<-Int.natCast_mul,<-hMT,IntKind.wrap_i64];omega))<|Dd (by exact cB rfl rfl rfl (show IntKind.i64.wrap (0+(M:Int))=(M:Int)by rw[IntKind.wrap_i64];omega))<|Dd aM<|Zz<|Sq<|Sr<|Dd aE<|Dd (fM aD)<|Dd aE<|Zz<|aF ?_;refine bJ (σ:=Nat) (fun k=>([(0,.pv (aZ (x::y::l))),(1,sv sep),(5,iv ((M+dC ((x::y::l).take k):Nat):Int)),(39,.pv (aZ (x::y::l))),(40,iv (((x::y::l).map encStr).length:Int)),(41,iv (k:Int))],[])) (fun k=>k<=l.length+2) (fun k=>l.length+2 - k) 0 (aQV _) ?_ ?_
  ·exact Wk
  intro k hk;refine Sr<|Dd cW<|Zz<|Sq ?_;refine Cn ?_ ?_<;>intro hc5
  ·have hlt:k<l.length+2:=by have:=aQA hc5;omega
   obtain ⟨s,hs⟩:=aU (show k<(x::y::l).length by omega);have hi:=cI (f:=encStr) hs;have hst:=uS hs;have h1:=hsz (k+1);refine aC<|Sq<|aF<|Sr<|Dd (by exact bH rfl cC rfl rfl (by omega) (by exact aQP _) hi rfl)<|Dd (iN isAgg9 (hi:=hi))<|Dd aM<|Zz<|Sq<|Sr<|Dd aE<|Dd (kG underlying9)<|Dd aE<|Dd (by exact dX rfl rfl rfl (show IntKind.i64.wrap (9223372036854775807 - ((M+dC ((x::y::l).take k):Nat):Int))=9223372036854775807 - ((M+dC ((x::y::l).take k):Nat):Int)by rw[IntKind.wrap_i64];omega))<|Dd iG<|Zz ?_;refine Cn ?_ ?_<;>intro hc6
   ·exact absurd (aQA hc6) (by omega)
   refine aC<|Rg<|Dd aE<|Dd aE<|Dd (kG underlying9)<|Dd (by exact cB rfl rfl rfl (show IntKind.i64.wrap (((M+dC ((x::y::l).take k):Nat):Int)+(s.size:Int))=((M+dC ((x::y::l).take (k+1)):Nat):Int)by rw[IntKind.wrap_i64,hst];omega))<|Dd aM<|Zz<|Rg<|Dd mV<|Dd aE<|Zz ?_;exact⟨k+1,by omega,by omega,Wk⟩
  have hge:k=l.length+2:=by have:=aQB hc5;omega
  have hall:dC ((x::y::l).take k)=dC (x::y::l):=by rw[hge,<-hn2,List.take_length]
  have h2:=hsz k;refine aW<|Sr<|Dd (by exact bU (id:=2001) rfl HH rfl rfl)<|Zz<|Sr<|Dd aE<|Dd (by exact aA rfl rfl call198 rfl (aIq (M+dC ((x::y::l).take k)) (by omega) (by omega)))<|Zz<|Sr<|Dd aE<|Dd (by exact bH rfl cC rfl rfl (by omega) (by exact aQP _) rfl rfl)<|Dd (iN isAgg9 (hi:=rfl))<|Dd (by exact aA rfl rfl nL rfl (jD 1 [] true x (by show 0+_<_;have:=mM (x::y::l) 1;simp[dC]at this hl;omega)))<|Zz<|Sq<|Sr<|Dd aE<|Dd (by exact zU (l:=1) (h:=((x::y::l).map encStr).length) (rows':=(y::l).map encStr) rfl cC rfl (sz:=1) (by intro r hr;obtain ⟨q,_,rfl⟩:=List.mem_map.1 hr;rfl) rfl rfl (by rw[hll];omega) (aQK _) (by rw[List.take_length];rfl))<|Dd (fM aD)<|Dd aE<|Zz<|aF ?_;have hyl:((y::l).map encStr).length=l.length+1:=by rw[aQE];rfl
  refine jK (fun(q g:Nat)=>([(1,sv sep),(8,.ref 2001 0 0 0),(63,.pv (aZ (y::l))),(64,iv (((y::l).map encStr).length:Int)),(65,iv (q:Int))],wI g (IG sep x (y::l) q) true)) (fun q g=>q<=l.length+1) (fun q g=>l.length+1 - q) 0 2 (aQV _) ?_ ?_
  ·show cX _ _ _ _ (wI (1+1) ([]++x.data.toList++[]) true);rw[List.append_nil];exact(cX.wk (Eb<|Ea<|Eb<|Eb<|Eb<|trivial) (Hc (gF rfl rfl)<|Hc (eO _ _)<|trivial) trivial)
  intro q g hq;refine Sr<|Dd cW<|Zz<|Sq ?_;refine Cn ?_ ?_<;>intro hc7
  ·have hlt:q<l.length+1:=by have:=aQA hc7;omega
   obtain ⟨s,hs⟩:=aU (show q<(y::l).length by rw[aQG];exact hlt);have hi:=cI (f:=encStr) hs;have hpl:=W6 (sep:=sep) (x:=x) (l:=y::l) (k:=q) (Nat.le_of_lt hlt);have hnx:=aCu (sep:=sep) (x:=x) hs;have hss:=aEU (aQO hs);have hxs:x.size+dC (y::l)=dC (x::y::l):=by simp[dC]
   have hll2:(y::l).length=l.length+1:=rfl;rw[hll2,<-hMT]at hpl;refine aC<|Sq<|aF<|Sr<|Dd (by exact bH rfl cC rfl rfl (by omega) (by exact aQP _) hi rfl)<|Dd (iN isAgg9 (hi:=hi))<|Dd aM<|Zz<|Sr<|Dd aE<|Dd (by exact aA rfl rfl nL rfl (jD g (IG sep x (y::l) q) true sep (by omega)))<|Zz<|Rg<|Dd aE<|Dd (by exact aA rfl rfl nL rfl (jD (g+1) (IG sep x (y::l) q++sep.data.toList) true s (by rw[aQF];show _+sep.size+_<_;omega)))<|Zz<|Rg<|Dd mV<|Dd aE<|Zz ?_;refine⟨q+1,g+1+1,by omega,by omega,?_⟩;show cX _ _ _ _ (wI (g+1+1) (IG sep x (y::l) (q+1)) true);rw[hnx,<-List.append_assoc];exact(cX.wk (Eb<|Ea<|Eb<|Eb<|Eb<|trivial) (Hc (gF rfl rfl)<|Hc (eO _ _)<|trivial) trivial)
  have hge2:q=l.length+1:=by have:=aQB hc7;omega
  have hpl:=W6 (sep:=sep) (x:=x) (l:=y::l) hq;have hll2:(y::l).length=l.length+1:=rfl;have hxs:x.size+dC (y::l)=dC (x::y::l):=by simp[dC]
  rw[hll2,<-hMT]at hpl;refine aW<|Sr<|Dd (by exact aA rfl rfl nK rfl (QA g (IG sep x (y::l) q) true (by omega)))<|Dd aM<|Zz<|aB ?_;have hres:(⟨(IG sep x (y::l) q).toArray⟩:ByteArray)=⟨(bZ sep.data.toList (bs (x::y::l))).toArray⟩:=by
   rw[IG,hge2,<-hll2,List.take_length];rfl
  rw[<-hres];exact Rt Qq
 exact absurd (aQB hc3) (by omega)
def asc{α:Type}(f:α->ByteArray)(l:List α):Prop:=l.Pairwise (fun a b=>wH (f a) (f b)=true)
theorem aJZ{f:α->ByteArray}{l:List α}(h:asc f l){a b:α}(hij:i<j)(ha:l[i]?=some a)(hb:l[j]?=some b):wH (f a) (f b)=true:=by
 obtain ⟨i1,i2⟩:=aQI.1 ha;obtain ⟨j1,j2⟩:=aQI.1 hb;have:=List.pairwise_iff_getElem.1 h i j i1 j1 hij
 rwa [i2,j2]at this
abbrev pvR(ps:List (List PV)):List (List AV):=ps.map (·.map .pv)
theorem aHz(ps:List (List PV)):(pvR ps).length=ps.length:=aQE _
theorem N7{last:ByteArray}{t:GTag}:A7 last t=false↔bT t.key=true/\wH last t.key=true/\t.val≠sNil/\t.val.size<=200:=by
 simp only[A7,aQ0,Bool.not_eq_false',KO,aQM];constructor
 ·rintro⟨⟨⟨h1,h2⟩,h3⟩,h4⟩;exact⟨h1,h2,h3,by omega⟩
 rintro⟨h1,h2,h3,h4⟩;exact⟨⟨⟨h1,h2⟩,h3⟩,by omega⟩
theorem aH1(h:s≠sNil):wH sNil s=true:=by
 cases e:wH sNil s with
 |true=>rfl
 |false=>exact absurd (KM (aAu s) e) h
theorem zH{l:List GTag}:qY l=true↔(∀t,t∈l->bT t.key=true/\t.val≠sNil/\t.val.size<=200)/\asc GTag.key l/\l.length<=60:=by
 have hlen:decide ((l.length:Int)<=60)=decide (l.length<=60):=by
  rw[Bool.eq_iff_iff,aQL,aQL];omega
 rw[qY,hlen,aQN,aQX,List.any_eq_false,aQL];constructor
 ·rintro⟨h,hn⟩;have hb:∀k t,l[k]?=some t->bT t.key=true/\wH (iQ GTag.key l k) t.key=true/\t.val≠sNil/\t.val.size<=200:=fun k t hk=>by
   have h1:=h k (List.mem_range.2 (aQI.1 hk).1);rw[N8,hk]at h1;simp only[Bool.not_eq_true]at h1;exact N7.1 h1
  refine⟨fun t ht=>?_,?_,hn⟩
  ·obtain ⟨k,hk⟩:=aQZ.1 ht;obtain ⟨a,_,b,c⟩:=hb k t hk;exact⟨a,b,c⟩
  have key:∀(d i:Nat) (a b:GTag),l[i]?=some a->l[i+d+1]?=some b->wH a.key b.key=true:=by
   intro d
   induction d with
   |zero =>
    intro i a b ha hb';have:=(hb (i+1) b hb').2.1;rw[iQ,ha]at this;exact this
   |succ d ih =>
    intro i a b ha hb';have hlt:i+d+1<l.length:=by have:=(aQI.1 hb').1;omega
    obtain ⟨x,hx⟩:=aU hlt;have h2:=(hb (i+(d+1)+1) b hb').2.1;rw[iQ,show i+(d+1)=i+d+1 by omega,hx]at h2;exact HL (ih i a x ha hx) h2
  rw[asc,List.pairwise_iff_getElem];intro i j hi hj hij;exact key (j - i - 1) i _ _ (aQJ hi) (by rw[show i+(j - i - 1)+1=j by omega];exact aQJ hj)
 rintro⟨h1,h2,h3⟩;refine⟨fun k hk=>?_,h3⟩;have hlt:=List.mem_range.1 hk;rw[N8,aQJ hlt];simp only[Bool.not_eq_true];obtain ⟨a,b,c⟩:=h1 _ (List.getElem_mem hlt);refine N7.2 ⟨a,?_,b,c⟩;cases k with
 |zero =>
  have:l[0].key≠sNil:=NO a;exact aH1 this
 |succ k =>
  rw[iQ,aQJ (show k<l.length by omega)];exact aJZ h2 (Nat.lt_succ_self k) (aQJ (by omega)) (aQJ hlt)
theorem Fin.slice0{H1:aH}{ob:Ob}(ps:List (List PV))(hH:H1.get id=some ob)(hg:ob.g=g)(hps:ob.rows=ps.map (·.map .pv))(hn:ps.length=n):
  Fin [] H1 (.osl id g 0 n) [] (.pv (.sl ps)):=by
 subst hg hn;exact Fin.fz (id:=id) (ob:=ob) ps hH hps (.osl (by rw[aQW,List.drop_zero,List.take_length])) rfl trivial trivial
theorem S5(l:List ByteArray):∀r∈l.map encStr,r.length=1:=fun r hr=>by
 obtain ⟨t,_,rfl⟩:=List.mem_map.1 hr;rfl
theorem NL(n:Nat)(H:aH)(h4:H.get 904=none)(h5:H.get 905=none)(hc:eI H)(hn:n<1099511627776):
  aI Tryz.prog 243 [.pv .nils,iv (n:Int)] H (fun r H'=>r=.osl 905 1 0 0/\H'=(905,⟨1,1,9,[]⟩)::H):=by
 refine Bd func243 rfl ntmps243 ?_;by_cases h0:n=0
 ·subst h0;refine X7 (t:=0) (id:=905) (sz:=1) (ty:=9) rfl h5 rfl ?_;refine Sr<|Dd aM<|Zz<|Sq<|Sr<|Dd aE<|Dd cW<|Zz ?_;refine Cn ?_ ?_<;>intro hc1
  ·have h:=aQA hc1;omega
  refine aC<|Sq<|Sr<|Dd aE<|Dd aE<|Dd (by exact CC rfl aD rfl rfl rfl)<|Dd aE<|Dd (by exact CB rfl aD rfl rfl rfl)<|Dd (by exact dX rfl rfl rfl (by exact jM (by omega) (by omega)))<|Dd (by exact dX rfl rfl rfl (by exact jM (by omega) (by omega)))<|Dd aM<|Zz<|Sr<|Dd aE<|Dd iG<|Zz ?_;refine Cn ?_ ?_<;>intro hc2
  ·have h:=aQA hc2;omega
  refine aC<|Sq ?_;refine aDW (t:=0) rfl rfl rfl (by decide) ?_;refine Rg<|Dd aE<|Dd aM<|Zz<|aB ?_;refine dV (H':=((905,⟨1,1,9,[]⟩)::H)) (.inr rfl) rfl (aX rfl) ((Fin.bump (g:=0) (k:=1) rfl rfl (by decide) rfl rfl rfl).trans (Fin.get' (fun j=>xE _ _ _ _ j))) ?_;exact Qq
 refine X7 (t:=0) (id:=904) (sz:=1) (ty:=9) rfl h4 rfl ?_;have h5':aH.get ((904,(⟨0,1,9,[]⟩:Ob))::H) 905=none:=h5;refine Sr<|Dd aM<|Zz<|Sq<|Sr<|Dd aE<|Dd cW<|Zz ?_;refine Cn ?_ ?_<;>intro hc3
 ·have h:=aQA hc3;omega
 refine aC<|Sq<|Sr<|Dd aE<|Dd aE<|Dd (by exact CC rfl aD rfl rfl rfl)<|Dd aE<|Dd (by exact CB rfl aD rfl rfl rfl)<|Dd (by exact dX rfl rfl rfl (by exact jM (by omega) (by omega)))<|Dd (by exact dX rfl rfl rfl (by exact jM (by omega) (by omega)))<|Dd aM<|Zz<|Sr<|Dd aE<|Dd iG<|Zz ?_;refine Cn ?_ ?_<;>intro hc4
 ·refine Rg<|Dd aE<|Dd aE<|Dd (by exact CC rfl aD rfl rfl rfl)<|Dd (by exact U4 (l:=0) (h:=0) rfl cC rfl rfl rfl rfl rfl rfl (aQK _) (aQK _) rfl rfl rfl)<|Dd aE<|Dd (by exact K9 (id2:=905) (m:=n) rfl cC underlying3 xI zo9 rfl rfl rfl rfl rfl (aQK _) rfl (by omega) (by omega) (by omega) (aQW _) (by omega) h5' rfl)<|Dd aE<|Dd (by exact CB rfl aD rfl rfl rfl)<|Dd (by exact jC (l:=0) (h:=0) rfl cC rfl rfl rfl rfl rfl rfl (aQK _) (by omega) rfl rfl)<|Dd aM<|Zz<|Sr<|Dd aE<|Dd aM<|Zz<|aB ?_;refine dV (H':=((905,⟨1,1,9,[]⟩)::H)) (.inr rfl) rfl (aX rfl) ((Fin.trunc (g:=0) (k:=1) (sz:=1) (ty:=9) (rows:=[]) rfl rfl (by decide) rfl rfl (List.take_zero)).trans (Fin.front' [_,_,_] [(905,⟨1,1,9,[]⟩)] (by simp;rfl) (by simp[h4,h5]) (by simp[aH.get]) (by simp) hc (by simp[h4,h5]))) ?_;exact Qq
 have h:=aQB hc4;omega
theorem IS(ls:List (List ByteArray))(H:aH)(hls:ls.length<1099511627776)(hb:ls.flatten.length<1099511627776):
  aI Tryz.prog 204 [.pv (.sl (ls.map (fun l=>[.sl (l.map encStr)])))] H (fun r H'=>r=.pv (.sl (ls.flatten.map encStr))/\H'=H):=by
 refine Pu ?_;have hml:(ls.map (fun l=>[PV.sl (l.map encStr)])).length=ls.length:=aQE _;have hpre:∀k,((ls.take k).flatten).length<=ls.flatten.length:=fun k=>by
  conv=>rhs;rw[<-List.take_append_drop k ls,List.flatten_append,aQF]
  omega
 have hst:∀k l,ls[k]?=some l->(ls.take (k+1)).flatten=(ls.take k).flatten++l:=fun k l h=>by
  rw[List.take_add_one,h,List.flatten_append];simp
 refine Bd func204 rfl ntmps204<|Sr<|Dd aM<|Zz<|Sr<|Dd aM<|Zz<|Sq<|Sr<|Dd aE<|Dd (fM FA)<|Dd aE<|Zz<|aF ?_;refine bJ (σ:=Nat) (fun k=>([(0,.pv (.sl (ls.map (fun l=>[.sl (l.map encStr)])))),(3,iv (((ls.take k).flatten).length:Int)),(9,.pv (.sl (ls.map (fun l=>[.sl (l.map encStr)])))),(10,iv ((ls.map (fun l=>[PV.sl (l.map encStr)])).length:Int)),(11,iv (k:Int))],[])) (fun k=>k<=ls.length) (fun k=>ls.length - k) 0 (by omega) ?_ ?_
 ·exact E0
 intro k hk;refine Sr<|Dd cW<|Zz<|Sq ?_;refine Cn ?_ ?_<;>intro hc1
 ·have hlt:k<ls.length:=by have:=aQA hc1;omega
  obtain ⟨l,hl⟩:=aU hlt;have hi:=cI (f:=fun l=>[PV.sl (l.map encStr)]) hl;have hml2:(l.map encStr).length=l.length:=aQE _;have h1:=hst k l hl;have h2:=hpre (k+1);have h3:((ls.take (k+1)).flatten).length=((ls.take k).flatten).length+l.length:=by rw[h1,aQF]
  have hw:IntKind.i64.wrap ((((ls.take k).flatten).length:Int)+((l.map encStr).length:Int))=(((ls.take (k+1)).flatten).length:Int):=by rw[IntKind.wrap_i64,hml2,h3];omega
  refine aC<|Sq<|aF<|Sr<|Dd (mR JH)<|Dd (iN aG)<|Dd aM<|Zz<|Sr<|Dd aE<|Dd aE<|Dd (fM aD)<|Dd (by exact cB rfl rfl rfl hw)<|Dd aM<|Zz<|Sr<|Dd aE<|Dd cW<|Zz ?_;refine Cn ?_ ?_<;>intro hc2
  ·have h:=aQA hc2;omega
  refine aC<|Rg<|Dd mV<|Dd aE<|Zz ?_;exact⟨k+1,by omega,by omega,E0⟩
 have hge:k=ls.length:=by have:=aQB hc1;omega
 subst hge;rw[List.take_length];refine aW<|Sr<|Dd aE<|Dd (by exact TG rfl rfl call243 rfl (NL ls.flatten.length [] rfl rfl (eI.of (by simp)) hb))<|Dd aM<|Zz<|Sq<|Sr<|Dd aE<|Dd (fM FA)<|Dd aE<|Zz<|aF ?_;refine jK (fun(k:Nat) (g:Nat)=>([(6,.osl 905 g 0 ((ls.take k).flatten.map encStr).length),(25,.pv (.sl (ls.map (fun l=>[.sl (l.map encStr)])))),(26,iv ((ls.map (fun l=>[PV.sl (l.map encStr)])).length:Int)),(27,iv (k:Int))],[(905,⟨g,1,9,pvR ((ls.take k).flatten.map encStr)⟩)])) (fun k g=>k<=ls.length) (fun k g=>ls.length - k) 0 1 (by omega) ?_ ?_
 ·exact E0
 intro k g hk;refine Sr<|Dd cW<|Zz<|Sq ?_;refine Cn ?_ ?_<;>intro hc3
 ·have hlt:k<ls.length:=by have:=aQA hc3;omega
  obtain ⟨l,hl⟩:=aU hlt;have hi:=cI (f:=fun l=>[PV.sl (l.map encStr)]) hl;have hml2:(l.map encStr).length=l.length:=aQE _;have hml3:((ls.take k).flatten.map encStr).length=((ls.take k).flatten).length:=aQE _;have h1:=hst k l hl;have h2:=hpre (k+1);have h3:((ls.take (k+1)).flatten).length=((ls.take k).flatten).length+l.length:=by rw[h1,aQF]
  refine aC<|Sq<|aF<|Sr<|Dd (mR JH)<|Dd (iN aG)<|Dd aM<|Zz<|Rg<|Dd aE<|Dd aE<|Dd (by exact cJ rfl cC xI rfl rfl rfl rfl rfl (aHz _) rfl (S5 l) rfl (by omega) (by rw[h1,List.map_append,aQF]:((ls.take k).flatten.map encStr).length+(l.map encStr).length=((ls.take (k+1)).flatten.map encStr).length) (by rw[h1,List.map_append,pvR,pvR,List.map_append]:pvR ((ls.take k).flatten.map encStr)++(l.map encStr).map (·.map .pv)=pvR ((ls.take (k+1)).flatten.map encStr)))<|Dd aM<|Zz<|Rg<|Dd mV<|Dd aE<|Zz ?_;exact⟨k+1,g+1,by omega,by omega,cX.dup ⟨⟨_,rfl,rfl⟩,⟨_,rfl,rfl⟩,⟨_,rfl,rfl⟩,⟨_,rfl,rfl⟩,trivial⟩⟩
 have hge:k=ls.length:=by have:=aQB hc3;omega
 subst hge;rw[List.take_length];refine aW<|Sr<|Dd aE<|Dd aM<|Zz<|aB ?_;refine dV (H':=[]) (.inr rfl) rfl (aX rfl) (Fin.slice0 (id:=905) (ls.flatten.map encStr) rfl rfl rfl rfl) ?_;exact Qq
theorem CK(h:lV o=true):o.refs.length<=2000/\o.tags.length<=60/\qY o.tags=true/\bT o.id=true/\(o.kind=2->2<=o.refs.length):=by rw[lV,aQN,aQX,JU,tE]at h;have h1:=h.1;simp only[aQ0,Bool.not_eq_false',aQM]at h1;obtain ⟨⟨⟨⟨a1,a2⟩,a3⟩,a4⟩,a5⟩:=h1;refine⟨by omega,(zH.1 a3).2.2,a3,a2,fun hk=>?_⟩;rw[hk,show CL 2=2 from rfl]at a4;omega
theorem vR:dU e=true↔(1<=e.op/\e.op<=7)/\rI e=true/\DY e=e:=by rw[dU,aQN,aQN,aQN,aQL,aQL,nV]
theorem EW(h:dU e=true):e.val.size<=200:=by
 obtain ⟨_,h2,h3⟩:=vR.1 h;have hv:(DY e).val=e.val:=by rw[h3]
 by_cases e3:e.op=3
 ·rw[rI,aQC (by omega),aQC (by omega),aQD e3,aQN,aQN,aQL]at h2;omega
 have:e.val=sNil:=by
  rw[<-hv,DY]
  repeat' split
  all_goals rfl
 rw[this];decide
abbrev aOt(m:List GObj)(s:ByteArray):Option GObj:=m.find? (aOw s)
theorem aDB(h:lV o=true):1<=o.kind/\o.kind<=5:=by
 rw[lV,aQN,aQX,JU,tE]at h;have h1:=h.1;simp only[aQ0,aQM]at h1;have hw:=h1.1.1.1.1;unfold eP at hw;by_cases a:o.kind=1
 ·omega
 by_cases b:o.kind=2
 ·omega
 by_cases c:o.kind=3
 ·omega
 by_cases d:o.kind=4
 ·omega
 by_cases f:o.kind=5
 ·omega
 rw[aQC a,aQC b,aQC c,aQC d,aQC f]at hw;exact absurd rfl hw
def oL(s:ByteArray):ByteArray:=aV (s.size:Int)++⟨#[58]⟩++s
def aP(l:List ByteArray):List UInt8:=l.flatMap fun s=>(oL s).data.toList
def xX(l:List ByteArray):ByteArray:=qK ⟨(aP l).toArray⟩
theorem mE{n:Int}(h0 : -9223372036854775808<=n)(h1:n<=9223372036854775807):(aV n).size<=21:=by
 have:=Lib.itoa_length_le n h0 h1;show (Lib.itoa n).toArray.size<=21
 simpa using this
theorem qC(s:ByteArray):(oL s).size=(aV (s.size:Int)).size+1+s.size:=by rw[oL,ByteArray.size_append,ByteArray.size_append];rfl
theorem uC(l:List ByteArray)(s:ByteArray):aP (l++[s])=aP l++(oL s).data.toList:=by rw[aP,aP,List.flatMap_append,List.flatMap_cons,List.flatMap_nil,List.append_nil]
theorem AY:∀(l:List ByteArray) (k:Nat),(aP (l.take k)).length<=(aP l).length:=fun l k=>by
 have h:aP l=aP (l.take k)++aP (l.drop k):=by rw[aP,aP,aP,<-List.flatMap_append,List.take_append_drop]
 rw[h,aQF];omega
theorem mS{l:List α}{a:α}(h:l[k]?=some a):l.take (k+1)=l.take k++[a]:=by rw[List.take_add_one,h,Option.toList_some]
theorem nO(s:ByteArray):s.data.toList.length=s.size:=by simp
theorem CI:∀l:List ByteArray,l.length<=(aP l).length
 | []=>aQK _
 |s::r=>by
  have ih:=CI r;have h:aP (s::r)=(oL s).data.toList++aP r:=by rw[aP,List.flatMap_cons];rfl
  rw[h,aQF,aQG,nO,qC];omega
theorem aFY(l:List ByteArray)(H:aH)(hl:(aP l).length<35184372088832):aI Tryz.prog 130 [.pv (aZ l)] H (fun r H'=>r=sv (xX l)/\H'=H):=by
 refine Pu ?_;have hml:(l.map encStr).length=l.length:=aQE _;have hll:=CI l;refine Bd func130 rfl ntmps130<|Sr<|Dd aM<|Zz<|Sr<|Dd (by exact bU (id:=2001) rfl HH rfl rfl)<|Zz<|Sq<|Sq ?_;refine gM.ent (E':=[(0,.pv (aZ l)),(3,.ref 2001 0 0 0)]) (H':=wI 0 [] false) (cX.bld0 ⟨⟨_,rfl,.same (by simp)⟩,⟨_,rfl,.same (by simp;rfl)⟩,trivial⟩) ?_;refine Rg<|Dd aE<|Dd (fM aD)<|Dd aE<|Zz<|aF ?_;refine IZ (fun(k g:Nat) (u:Bool)=>([(3,.ref 2001 0 0 0),(6,.pv (aZ l)),(7,iv ((l.map encStr).length:Int)),(8,iv (k:Int))],wI g (aP (l.take k)) u)) (fun k g u=>k<=l.length) (fun k g u=>l.length - k) 0 0 false (aQV _) ?_ ?_
 ·exact(cX.wk (Ea<|Eb<|Eb<|Eb<|trivial) (Hc (gF rfl rfl)<|Hc (eO _ _)<|trivial) trivial)
 intro k g u hk;have hle:=AY l k;refine Sr<|Dd cW<|Zz<|Sq ?_;refine Cn ?_ ?_<;>intro hc1
 ·have hlt:k<l.length:=by have:=aQA hc1;omega
  obtain ⟨s,hs⟩:=aU hlt;have hi:=cI (f:=encStr) hs;have hle2:=AY l (k+1);rw[mS hs,uC,aQF,nO,qC]at hle2;have hsz:s.size<35184372088832:=by omega
  refine aC<|Sq<|aF<|Sr<|Dd (mR cC)<|Dd (iN isAgg9)<|Dd aM<|Zz<|Rg<|Dd aE<|Dd (kG underlying9)<|Dd (by exact aA rfl rfl pW rfl (uD (s.size:Int) (by omega) (by omega) _))<|Dd (by exact cK rfl rfl rfl (by have:(⟨#[58]⟩:ByteArray).size=1:=rfl;omega) rfl)<|Dd aE<|Dd (by exact cK rfl rfl rfl (by rw[ByteArray.size_append];have:(⟨#[58]⟩:ByteArray).size=1:=rfl;omega) rfl)<|Dd (by exact aA rfl rfl nL rfl (jD g (aP (l.take k)) u (oL s) (by rw[qC];omega)))<|Zz<|Rg<|Dd mV<|Dd aE<|Zz ?_;refine⟨k+1,g+1,true,by omega,by omega,?_⟩;rw[mS hs,uC];exact(cX.wk (Ea<|Eb<|Eb<|Eb<|trivial) (Hc (gF rfl rfl)<|Hc (eO _ _)<|trivial) trivial)
 have hge:k=l.length:=by have:=aQB hc1;omega
 subst hge;rw[List.take_length];exact aW<|Sr<|Dd (by exact aA rfl rfl nK rfl (QA g (aP l) u (by omega)))<|Dd (by exact aA rfl rfl UT rfl (VD ⟨(aP l).toArray⟩ _ (by show (aP l).toArray.size<_;rw[List.size_toArray];omega)))<|Dd aM<|Zz<|aB<|Rt<|Qq
theorem gH(s:ByteArray):(qK s).size=16:=by show (vQ _).toArray.size=16;simp[vQ]
def vZ:ByteArray->Nat->ByteArray
 |t,0=>t
 |t,n+1=>vZ (qK t) n
theorem UC:∀(a b:Nat) (t:ByteArray),vZ (vZ t a) b=vZ t (a+b)
 |0,b,t=>by rw[aQW];rfl
 |a+1,b,t=>by
  rw[show a+1+b=(a+b)+1 by omega];exact UC a b (qK t)
theorem zK(t:ByteArray)(n:Nat):vZ t (n+1)=qK (vZ t n):=by rw[<-UC n 1 t];rfl
theorem X2(h:t.size=16):∀n,(vZ t n).size=16
 |0=>h
 |n+1=>by rw[zK,gH]
def SN(m:ByteArray):Nat:=N1 (PO m.size) m.data.toList
def dJ(m:ByteArray):List Nat:=(List.range 16).map (G8 (SN m))
def qQ(m:ByteArray):Nat:=((dJ m).map (15 - ·)).sum
def BS(m:ByteArray):List Nat:=dJ m++[qQ m / 16,qQ m % 16]
theorem xY(m:ByteArray):(dJ m).length=16:=by simp[dJ]
theorem DI(m:ByteArray):(BS m).length=18:=by simp[BS,dJ]
theorem LW:∀l:List Nat,(l.map (15 - ·)).sum<=15*l.length
 | []=>aQK _
 |a::r=>by
  have:=LW r;simp only[List.map_cons,List.sum_cons,aQG];omega
theorem ML(m:ByteArray):qQ m<=240:=by have:=LW (dJ m);rw[xY]at this;exact this
theorem T6(m:ByteArray):∀d∈BS m,d<16:=by
 intro d hd;rcases List.mem_append.1 hd with h|h
 ·obtain ⟨j,_,rfl⟩:=List.mem_map.1 h;exact AP _ _
 have:=ML m;simp only[aQQ,aQU,or_false]at h;rcases h with rfl|rfl<;>omega
def CD:ByteArray:=⟨#[110,111,100,101]⟩
def gO(s:ByteArray)(i k:Nat):ByteArray:=xX [s,aV (i:Int),aV (k:Int)]
def zJ(s:ByteArray)(i:Nat):List ByteArray:=(List.range 18).map fun k=>vZ (gO s i k) 15
def CH(s:ByteArray)(i:Nat):ByteArray:=xX (zJ s i)
def jG(s:ByteArray)(h:Nat):List ByteArray:=(List.range (2 ^ h)).map (CH s)
def tN(a b:ByteArray):ByteArray:=xX [CD,a,b]
def zW:List ByteArray->List ByteArray
 |a::b::r=>tN a b::zW r
 |_=>[]
def QG:Nat->List ByteArray->ByteArray
 |0,l=>l.headD sNil
 |h+1,l=>QG h (zW l)
def iK:Nat->List ByteArray->Nat->List ByteArray
 |0,_,_=>[]
 |h+1,l,i=>l.getD (i ^^^ 1) sNil::iK h (zW l) (i / 2)
def rG(s:ByteArray)(h:Nat):ByteArray:=QG h (jG s h)
def B3(s:ByteArray)(i:Nat)(m:ByteArray):List ByteArray:=(List.range 18).map fun k=>vZ (gO s i k) ((BS m).getD k 0)
def zI:ByteArray->List ByteArray->Nat->ByteArray
 |at',[],_=>at'
 |at',o::r,i=>zI (if i % 2=1 then tN o at' else tN at' o) r (i / 2)
def xG(m:ByteArray)(l:List ByteArray):List ByteArray:=List.zipWith (fun s d=>vZ s (15 - d)) l (BS m)
def DT(b:UInt8):Bool:=(48<=b&&b<=57)||(97<=b&&b<=102)
def isJ(t:ByteArray):Bool:=decide (t.size=16)&&t.data.toList.all DT
def zV(key m:ByteArray)(i:Int)(l p:List ByteArray):Bool :=decide (l.length=18/\p.length<=8)&&l.all isJ&&p.all isJ&&decide (0<=i/\i<2 ^ p.length)&&decide (zI (xX (xG m l)) p i.toNat=key)
theorem tT:∀(n:Nat) (l:List ByteArray),l.length=2*n->(zW l).length=n
 |0,[],_=>rfl
 |n+1,a::b::r,h=>by
  have:=tT n r (by simp only[aQG]at h;omega);rw[zW,aQG,this]
 |n+1,[a],h=>by simp only[aQG,List.length_nil]at h;omega
 |n+1,[],h=>by simp at h
 |0,a::r,h=>by simp at h
theorem KG:∀(n:Nat) (l:List ByteArray) (k:Nat),l.length=2*n->k<n->(zW l).getD k sNil=tN (l.getD (2*k) sNil) (l.getD (2*k+1) sNil)
 |0,l,k,_,hk=>by omega
 |n+1,[],k,h,_=>by simp at h
 |n+1,[a],k,h,_=>by simp only[aQG,List.length_nil]at h;omega
 |n+1,a::b::r,0,h,_=>rfl
 |n+1,a::b::r,k+1,h,hk=>by
  have ih:=KG n r k (by simp only[aQG]at h;omega) (by omega);rw[zW,show 2*(k+1)=2*k+1+1 by omega,List.getD_cons_succ,ih,List.getD_cons_succ,List.getD_cons_succ,List.getD_cons_succ,List.getD_cons_succ]
theorem SG(i:Nat):i ^^^ 1=if i % 2=1 then i - 1 else i+1:=by
 have h2:(i ^^^ 1) / 2=i / 2:=by
  rw[Nat.xor_div_two];simp
 have h3:(i ^^^ 1) % 2=(i % 2) ^^^ 1:=by
  have:=Nat.xor_mod_two_pow (a:=i) (b:=1) (n:=1)
  simpa using this
 have h4:(i ^^^ 1) % 2=1 - i % 2:=by
  rw[h3];have:i % 2=0\/i % 2=1:=by omega
  rcases this with h|h<;>rw[h]<;>rfl
 split
 ·omega
 omega
theorem IL:∀(h:Nat) (l:List ByteArray) (i:Nat),l.length=2 ^ h->i<2 ^ h->zI (l.getD i sNil) (iK h l i) i=QG h l
 |0,l,i,hl,hi=>by
  have:i=0:=by simpa using hi
  subst this;rw[iK,zI,QG];cases l<;>rfl
 | h+1,l,i,hl,hi=>by
  have hl2:l.length=2*2 ^ h:=by rw[hl,Nat.pow_succ,Nat.mul_comm]
  have hi2:i / 2<2 ^ h:=by rw[Nat.pow_succ]at hi;omega
  have ih:=IL h (zW l) (i / 2) (tT _ _ hl2) hi2;rw[iK,zI,QG,<-ih,KG _ _ _ hl2 hi2,SG];congr 1
  split
  ·next h1 =>
   rw[show 2*(i / 2)=i - 1 by omega,show i - 1+1=i by omega]
  next h1 =>
  rw[show 2*(i / 2)=i by omega]
theorem HS:∀(h:Nat) (l:List ByteArray) (i:Nat),(iK h l i).length=h
 |0,_,_=>rfl
 |h+1,l,i=>by rw[iK,aQG,HS h]
theorem qF(s:ByteArray)(h:Nat):(jG s h).length=2 ^ h:=by simp[jG]
theorem RH(s:ByteArray)(hi:i<2 ^ h):(jG s h).getD i sNil=CH s i:=by rw[List.getD_eq_getElem?_getD,jG,aQY,List.getElem?_range hi];rfl
theorem qH{l:List α}{d:α}(h:k<l.length):l.getD k d∈l:=by rw[List.getD_eq_getElem?_getD,aQJ h];exact List.getElem_mem h
theorem aGB(s:ByteArray)(i:Nat)(m:ByteArray):xG m (B3 s i m)=zJ s i:=by
 apply List.ext_getElem?;intro k;rw[xG,List.getElem?_zipWith,B3,zJ,aQY,aQY];by_cases hk:k<18
 ·have hk2:k<(BS m).length:=by rw[DI];exact hk
  have hlt:=T6 m _ (qH (d:=0) hk2);have h4:(BS m)[k]?=some ((BS m).getD k 0):=by
   rw[List.getD_eq_getElem?_getD,aQJ hk2];rfl
  rw[List.getElem?_range hk,h4];show some (vZ (vZ (gO s i k) ((BS m).getD k 0)) (15 - (BS m).getD k 0))=some (vZ (gO s i k) 15);rw[UC,show (BS m).getD k 0+(15 - (BS m).getD k 0)=15 by omega]
 rw[List.getElem?_eq_none (by simp;omega)];rfl
theorem aFm(h:n<16):DT (UInt8.ofNat (pP n).toNat)=true:=by revert h;revert n;decide
theorem K0(s:ByteArray):isJ (qK s)=true:=by rw[isJ,aQN,aQL];refine⟨gH s,?_⟩;rw[List.all_eq_true];intro b hb;obtain ⟨j,_,rfl⟩:=List.mem_map.1 (show b∈(List.range 16).map _ from by simpa[qK,vQ]using hb);exact aFm (AP _ _)
theorem aL4(h:isJ t=true):∀n,isJ (vZ t n)=true
 |0=>h
 |n+1=>by rw[zK];exact K0 _
theorem sU(h:isJ t=true):t.size=16:=by rw[isJ,aQN,aQL]at h;exact h.1
theorem VK(s:ByteArray)(i:Nat)(m:ByteArray):∀t∈B3 s i m,isJ t=true:=by intro t ht;obtain ⟨k,_,rfl⟩:=List.mem_map.1 ht;exact aL4 (K0 _) _
theorem FN(s:ByteArray)(i:Nat)(m:ByteArray):(B3 s i m).length=18:=by simp[B3]
theorem FH:∀(n:Nat) (l:List ByteArray),l.length<=n->∀t∈zW l,isJ t=true
 |_,[],_,t,ht=>by simp[zW]at ht
 |_,[a],_,t,ht=>by simp[zW]at ht
 |0,a::b::r,h,t,ht=>by simp at h
 |n+1,a::b::r,h,t,ht=>by
  rw[zW]at ht;rcases aQQ.1 ht with rfl|ht
  ·exact K0 _
  exact FH n r (by simp only[aQG]at h;omega) t ht
theorem C5:∀(h:Nat) (l:List ByteArray) (i:Nat),l.length=2 ^ h->i<2 ^ h->(∀t∈l,isJ t=true)->∀t∈iK h l i,isJ t=true
 |0,_,_,_,_,_,t,ht=>by simp[iK]at ht
 | h+1,l,i,hl,hi,ha,t,ht=>by
  have hl2:l.length=2*2 ^ h:=by rw[hl,Nat.pow_succ,Nat.mul_comm]
  rw[iK]at ht;rcases aQQ.1 ht with rfl|ht
  ·refine ha _ (qH ?_);rw[SG];rw[Nat.pow_succ]at hi
   split<;>omega
  exact C5 h (zW l) (i / 2) (tT _ _ hl2) (by rw[Nat.pow_succ]at hi;omega) (FH _ _ (aQK _)) t ht
theorem uN(s:ByteArray)(h:Nat):∀t∈jG s h,isJ t=true:=by intro t ht;obtain ⟨k,_,rfl⟩:=List.mem_map.1 ht;exact K0 _
theorem aDw(s m:ByteArray)(hh:h<=8)(hi:i<2 ^ h):zV (rG s h) m (i:Int) (B3 s i m) (iK h (jG s h) i)=true:=by
 have h1:=IL h (jG s h) i (qF s h) hi;rw[RH s hi,CH,<-aGB s i m]at h1;rw[zV,HS,FN,List.all_eq_true.2 (VK s i m),List.all_eq_true.2 (C5 h _ i (qF s h) hi (uN s h)),aQP,h1];have hi2:(i:Int)<2 ^ h:=by exact_mod_cast hi
 simp[hh,rG,hi2]
def cD(l:List ByteArray):List (List AV):=l.map fun s=>[.pv (.str s)]
theorem eX(l:List ByteArray):(cD l).length=l.length:=aQE _
theorem kK(l:List ByteArray)(s:ByteArray):cD l++[[.pv (.str s)]]=cD (l++[s]):=by rw[cD,cD,List.map_append];rfl
theorem cA(H:aH)(l:List ByteArray):∀r∈cD l,∀a∈r,Clo H a:=by intro r hr a ha;obtain ⟨b,_,rfl⟩:=List.mem_map.1 hr;rw[aQH]at ha;subst ha;simp
theorem eM(l:List ByteArray):cD l=(l.map encStr).map (·.map .pv):=by rw[List.map_map];rfl
def gU(t:GTag):ByteArray:=t.key++⟨#[61]⟩++⟨(eE t.val.data.toList).toArray⟩
def wK(L:List ByteArray):aH:=[(903,⟨L.length,1,9,cD L⟩),(4,bx 1 22 [.osl 903 L.length 0 L.length])]
theorem aKW(L:List ByteArray)(s:ByteArray):wK (L++[s])=[(903,⟨L.length+1,1,9,cD (L++[s])⟩),(4,bx 1 22 [.osl 903 (L.length+1) 0 (L.length+1)])]:=by simp[wK]
theorem pN(s:ByteArray):(⟨(eE s.data.toList).toArray⟩:ByteArray).size<=2*s.size+2:=by
 show (eE s.data.toList).length<=_;have:=XI s.data.toList;have h:s.data.toList.length=s.size:=by simp
 rw[eE,aQG,aQF,List.length_singleton];omega
theorem aB1(h:(aH.get [(i,a),(j,b)] id).isSome=true):(aH.get [(i,a'),(j,b')] id).isSome=true:=by
 simp only[aH.get]at h |-;cases e1:Nat.beq i id with
 |true=>rfl
 |false =>
  rw[e1]at h;cases e2:Nat.beq j id with
  |true=>rfl
  |false=>rw[e2]at h;exact h
theorem aHV(t:GTag)(L:List ByteArray)(hk:t.key.size<1099511627776)(hv:t.val.size<1099511627776)(hL:L.length<1099511627776):
  aI Tryz.prog 265 [av (bQ t),.ref 4 0 0 0] (wK L) (fun r H'=>r=.tup []/\H'=wK (L++[gU t])):=by
 rw[aKW];have hq:=pN t.val;have h61:(⟨#[61]⟩:ByteArray).size=1:=rfl;have hks:(t.key++⟨#[61]⟩:ByteArray).size=t.key.size+1:=by rw[ByteArray.size_append];rfl
 refine Bd func265 rfl ntmps265<|Sr<|Dd (by exact cF (id:=2) rfl rfl rfl rfl rfl)<|Zz<|aO follows<|Cr [4] (fun _ h=>lh aG h)<|Cr [2] (fun _ h=>fh nG h)<|Cr [2] (fun _ h=>lh isAgg9 h)<|Cr [] (fun H1 hH=>by exact cK rfl rfl rfl (by omega) rfl)<|Cr [2] (fun _ h=>fh oF h)<|Cr [2] (fun _ h=>lh isAgg9 h)<|Cr [] (fun H1 hH=>by exact aA rfl rfl call203 rfl (aBK t.val _ (by omega)))<|Cr [] (fun H1 hH=>by exact cK rfl rfl rfl (by omega) rfl)<|Cr [] (fun H1 hH=>by exact aQ [[.str (gU t)]] rfl cC rfl rfl rfl rfl rfl (by intro r hr;rw[aQH]at hr;subst hr;rfl))<|Cp [903] (fun H1 hH=>by exact cJ (ps:=[[.str (gU t)]]) rfl cC xI rfl ((hH _ rfl).trans rfl) rfl rfl rfl (eX L) rfl (by intro r hr;rw[aQH]at hr;subst hr;rfl) (m:=1) rfl (by omega) rfl (kK L (gU t))) ?_;refine Cp [4] (fun H1 hH=>by exact cO rfl sizeOf22 rfl rfl rfl rfl ((hH _ rfl).trans rfl) rfl rfl rfl)<|bM<|Kr ?_;exact sY (H':=[(903,⟨L.length+1,1,9,cD (L++[gU t])⟩),(4,bx 1 22 [.osl 903 (L.length+1) 0 (L.length+1)])]) (.inl rfl) rfl (Fin.wk (by(simp;done)) (Hc (cA _ _)<|Ha<|trivial) ⟨rfl,rfl,trivial⟩) ⟨rfl,rfl⟩
def JT(l:List GTag):ByteArray:=⟨(bZ [32] (bs (l.map gU))).toArray⟩
def iL(l:List GTag):ByteArray×Int:=if qY l then(if 20000<(JT l).size then(sNil,2)else(JT l,0))else(sNil,1)
theorem RB{t:GTag}(hk:t.key.size<=24)(hv:t.val.size<=200):(gU t).size<=427:=by have hq:=pN t.val;have h61:(⟨#[61]⟩:ByteArray).size=1:=rfl;rw[gU,ByteArray.size_append,ByteArray.size_append,h61];omega
theorem dO(h:bT s=true):s.size<=24:=by rw[bT,aQN,aQN,aQL]at h;omega
theorem nN(h:∀s,s∈l->s.size<=n):dC l<=n*l.length:=by
 induction l with
 |nil=>exact aQV _
 |cons a l ih =>
  rw[dC,List.map_cons,List.sum_cons,aQG,Nat.mul_succ];have h1:=h a List.mem_cons_self;have h2:=ih (fun s hs=>h s (List.mem_cons_of_mem _ hs));rw[dC]at h2;omega
theorem aNa{L:List ByteArray}{r:ByteArray}(h:aI Tryz.prog 158 [.pv (aZ L),sv ⟨#[32]⟩] [] (fun x H'=>x=sv r/\H'=[])):aI Tryz.prog 158 [.osl 903 L.length 0 L.length,sv ⟨#[32]⟩] ((903,⟨L.length,1,9,cD L⟩)::K) (fun x H'=>x=sv r/\H'=(903,⟨L.length,1,9,cD L⟩)::K):=by
 exact RO.calls (RO.lend (id:=903) (H1:=[]) (L.map encStr) (RO.of h rfl) (get_cons_same _ _ _) (eM L) rfl
  (dF (.osl (by rw[aQW,List.drop_zero,List.take_of_length_le (by rw[aQE];exact aQK _)])) (dF (.same (by simp)) oO)) (fun _ _ h=>by cases h) (fun _ _ h=>by cases h) rfl)
theorem P6(l:List GTag)(H:aH)(hl:HW l):aI Tryz.prog 235 [.pv (rR l)] H (fun r H'=>r=.tup [sv (iL l).1,iv (iL l).2]/\H'=H):=by
 refine Pu ?_;have hml:(l.map bQ).length=l.length:=aQE _;refine Bd func235 rfl ntmps235<|Sr<|Dd aM<|Dd aM<|Zz<|Sq<|Sr<|Dd aE<|Dd (by exact aA rfl rfl aDa rfl (AB l _ hl))<|Dd iS<|Zz ?_;refine Cn ?_ ?_<;>intro hc1
 ·have hg:qY l=false:=by rw[<-aQX];exact hc1
  have e:iL l=(sNil,1):=by rw[iL,aQC (by rw[hg];decide)]
  rw[e];exact Sr<|Dd aM<|Dd aM<|Zz<|aB<|Ru<|Qq
 have hg:qY l=true:=by rw[<-Bool.not_eq_false'];exact hc1
 obtain ⟨g1,g2,g3⟩:=zH.1 hg;refine aC<|Sr<|Dd (by exact bU (id:=4) rfl aDk rfl rfl)<|Zz<|Sr<|Dd (by exact gR rfl rfl)<|Dd aM<|Zz<|Sq<|Sq ?_;refine gM.ent (E':=[(0,.pv (rR l)),(4,.ref 4 0 0 0),(5,.clo 265 [.ref 4 0 0 0])]) (H':=wK []) (cX.nz 903 1 9 rfl rfl ⟨⟨_,rfl,(by exact Nz.same (by(simp;done)))⟩,⟨_,rfl,(by exact Nz.same (by(simp;rfl)))⟩,⟨_,rfl,(by exact Nz.same (by(simp;rfl)))⟩,trivial⟩ ⟨⟨_,rfl,rfl,rfl,rfl,(by exact .inr ⟨_,_,rfl,rfl,(by repeat(first|exact trivial|refine⟨(by exact Nz.own),?_⟩))⟩)⟩,trivial⟩ trivial) ?_;refine Rg<|Dd aE<|Dd (fM cZ)<|Dd aE<|Zz<|aF ?_;refine bJ (σ:=Nat) (fun k=>([(4,.ref 4 0 0 0),(5,.clo 265 [.ref 4 0 0 0]),(13,.pv (rR l)),(14,iv ((l.map bQ).length:Int)),(15,iv (k:Int))],wK ((l.take k).map gU))) (fun k=>k<=l.length) (fun k=>l.length - k) 0 (aQV _) ?_ ?_
 ·exact(cX.wk (Ea<|Ea<|Eb<|Eb<|Eb<|trivial) (Hc (cA _ _)<|Ha<|trivial) trivial)
 intro k hk;refine Sr<|Dd cW<|Zz<|Sq ?_;refine Cn ?_ ?_<;>intro hc2
 ·have hlt:k<l.length:=by have:=aQA hc2;omega
  obtain ⟨t,ht⟩:=aU hlt;have hi:=cI (f:=bQ) ht;obtain ⟨b1,b2,b3⟩:=g1 t (aQO ht);have b4:=dO b1;have hLl:((l.take k).map gU).length<1099511627776:=by rw[aQE,aQS];omega
  have hnx:(l.take (k+1)).map gU=(l.take k).map gU++[gU t]:=by rw[List.take_add_one,ht,List.map_append];rfl
  refine aC<|Sq<|aF<|Sr<|Dd (by exact bH rfl kH rfl rfl (by omega) (by exact aQP _) hi rfl)<|Dd (by exact dP rfl uI kJ rfl hi (by simp only[Zl,bQ];rfl) rfl)<|Dd (by exact bU (id:=7) rfl aJa rfl rfl)<|Uu (jN kJ)<|Zz<|Rg<|Dd aE<|Dd (mD uI kJ)<|Dd (by exact cY rfl rfl rfl (dN.clo call265 (aI.frame (aHV t ((l.take k).map gU) (by omega) (by omega) hLl) (OS.sub ⟨rfl,rfl,trivial⟩) (eI.ofL ⟨(by exact cA _ _),(by(simp;rfl)),trivial⟩) (by simp;rfl) (fun id h=>.inl (aB1 h)))))<|Zz<|Rg<|Dd mV<|Dd aE<|Zz ?_;refine⟨k+1,by omega,by omega,?_⟩;show cX _ _ _ _ (wK ((l.take (k+1)).map gU));rw[hnx];exact(cX.wk (Ea<|Ea<|Eb<|Eb<|Eb<|trivial) (Hc (cA _ _)<|Ha<|trivial) trivial)
 have hge:k=l.length:=by have:=aQB hc2;omega
 subst hge;have hsb:dC (l.map gU)<=427*l.length:=by
  have:=nN (l:=l.map gU) (n:=427) (fun s hs=>by
   obtain ⟨t,ht,rfl⟩:=List.mem_map.1 hs;obtain ⟨b1,b2,b3⟩:=g1 t ht;exact RB (dO b1) b3)
  rwa [aQE]at this
 have hj:aI Tryz.prog 158 [.pv (aZ (l.map gU)),sv ⟨#[32]⟩] [] (fun x H'=>x=sv (JT l)/\H'=[]):=uB (l.map gU) ⟨#[32]⟩ [] (by decide) (by rw[aQE];show 1*_+_+_<_;omega);have hj2:=aNa (L:=l.map gU) (K:=[(4,bx 1 22 [.osl 903 (l.map gU).length 0 (l.map gU).length])]) hj;rw[List.take_length];refine aW<|Sr<|Dd (bF aG)<|Dd (by exact aA rfl rfl pV rfl (hj2))<|Dd aM<|Zz<|Sq<|Sr<|Dd aE<|Dd (kG underlying9)<|Dd iG<|Zz ?_;refine Cn ?_ ?_<;>intro hc3
 ·have e:iL l=(sNil,2):=by
   rw[iL,aQD hg,aQD (by have:=aQA hc3;omega)]
  rw[e];exact Sr<|Dd aM<|Dd aM<|Zz<|aB<|Ru<|Qq
 have e:iL l=(JT l,0):=by
  rw[iL,aQD hg,aQC (by have:=aQB hc3;omega)]
 rw[e];exact aC<|Sr<|Dd aE<|Dd aM<|Dd aM<|Zz<|aB<|Ru<|Qq
theorem aDQ(h:t.size<1099511627776):∀n,(vZ t n).size<1099511627776
 |0=>h
 |n+1=>by rw[zK,gH];decide
theorem UB(t:ByteArray)(n:Nat)(H:aH)(ht:t.size<1099511627776)(hn:n<1000):aI Tryz.prog 93 [sv t,iv (n:Int)] H (fun r H'=>r=sv (vZ t n)/\H'=H):=by
 refine Pu ?_;refine Bd func93 rfl ntmps93<|Sr<|Dd aM<|Zz<|Sq<|Sr<|Dd aE<|Dd aE<|Zz<|aF ?_;refine bJ (σ:=Nat) (fun k=>([(0,sv (vZ t k)),(5,iv (n:Int)),(6,iv (k:Int))],[])) (fun k=>k<=n) (fun k=>n - k) 0 (aQV _) ?_ ?_
 ·exact Wk
 intro k hk;have hsum:=fun H=>VD (vZ t k) H (by have:=aDQ ht k;omega);rw[<-zK]at hsum;refine Sr<|Dd cW<|Zz<|Sq ?_;refine Cn ?_ ?_<;>intro hc1
 ·have hlt:k<n:=by have:=aQA hc1;omega
  refine aC<|Sq<|aF<|Rg<|Dd aE<|Dd (by exact aA rfl rfl UT rfl (hsum _))<|Dd aM<|Zz<|Rg<|Dd (by exact cB rfl rfl rfl (show IntKind.i64.wrap ((k:Int)+1)=((k+1:Nat):Int)by rw[jM (by omega) (by omega)];omega))<|Dd aE<|Zz ?_;exact⟨k+1,by omega,by omega,Wk⟩
 have hge:k=n:=by have:=aQB hc1;omega
 subst hge;exact aW<|Sr<|Dd aE<|Dd aM<|Zz<|aB<|Rt<|Qq
theorem WV(l:List ByteArray)(H:aH)(hl:(aP l).length<35184372088832):aI Tryz.prog 94 [.pv (aZ l)] H (fun r H'=>r=sv (xX l)/\H'=H):=by refine Pu ?_;exact Bd func94 rfl ntmps94<|Sr<|Dd aM<|Zz<|Sr<|Dd aE<|Dd (by exact aA rfl rfl call130 rfl (aFY l _ hl))<|Dd aM<|Zz<|aB<|Rt<|Qq
theorem aB2(a b c:ByteArray):(aP [a,b,c]).length=(oL a).size+(oL b).size+(oL c).size:=by simp[aP,nO];omega
theorem ES(n:Nat)(h:n<1099511627776):(aV (n:Int)).size<=21:=mE (by omega) (by omega)
theorem nP(h:s.size<1099511627776):(oL s).size<=s.size+22:=by have:=ES s.size h;rw[qC];omega
theorem aAs(s:ByteArray)(i k:Nat)(H:aH)(hs:s.size<1099511627776)(hi:i<1099511627776)(hk:k<1099511627776):aI Tryz.prog 96 [sv s,iv (i:Int),iv (k:Int)] H (fun r H'=>r=sv (gO s i k)/\H'=H):=by
 refine Pu ?_;have h1:=ES i hi;have h2:=ES k hk;have hj:(aP [s,aV (i:Int),aV (k:Int)]).length<35184372088832:=by
  have e1:=nP hs;have e2:=nP (s:=aV (i:Int)) (by omega);have e3:=nP (s:=aV (k:Int)) (by omega);rw[aB2];omega
 exact Bd func96 rfl ntmps96<|Sr<|Dd aM<|Zz<|Sr<|Dd aE<|Dd aE<|Dd (by exact aA rfl rfl pW rfl (uD (i:Int) (by omega) (by omega) _))<|Dd aE<|Dd (by exact aA rfl rfl pW rfl (uD (k:Int) (by omega) (by omega) _))<|Dd (by exact aQ [[.str s],[.str (aV (i:Int))],[.str (aV (k:Int))]] rfl cC rfl rfl rfl rfl rfl (by intro r hr;simp only[aQQ,aQU,or_false]at hr;rcases hr with rfl|rfl|rfl<;>rfl))<|Dd (by exact aA rfl rfl UP rfl (WV [s,aV (i:Int),aV (k:Int)] _ hj))<|Dd aM<|Zz<|aB<|Rt<|Qq
theorem aBQ(a b:ByteArray)(back:Bool)(H:aH)(ha:a.size<1099511627776)(hb:b.size<1099511627776):aI Tryz.prog 95 [sv a,sv b,bv back] H (fun r H'=>r=sv (if back=true then tN b a else tN a b)/\H'=H):=by
 refine Pu ?_;have hj:∀x y:ByteArray,x.size<1099511627776->y.size<1099511627776->(aP [CD,x,y]).length<35184372088832:=by
  intro x y hx hy;have e1:=nP (s:=CD) (by decide);have e2:=nP hx;have e3:=nP hy;have e4:CD.size=4:=rfl;rw[aB2];omega
 refine Bd func95 rfl ntmps95<|Sr<|Dd aM<|Zz<|Sq<|Sr<|Dd aE<|Zz ?_;refine Cn ?_ ?_<;>intro hc1
 ·subst hc1;exact Rg<|Dd aE<|Dd aE<|Dd aM<|Dd aM<|Zz<|Sr<|Dd aE<|Dd aE<|Dd (by exact aQ [[.str CD],[.str b],[.str a]] rfl cC rfl rfl rfl rfl rfl (by intro r hr;simp only[aQQ,aQU,or_false]at hr;rcases hr with rfl|rfl|rfl<;>rfl))<|Dd (by exact aA rfl rfl UP rfl (WV [CD,b,a] _ (hj b a hb ha)))<|Dd aM<|Zz<|aB<|Rt<|Qq
 subst hc1;exact aC<|Sr<|Dd aE<|Dd aE<|Dd (by exact aQ [[.str CD],[.str a],[.str b]] rfl cC rfl rfl rfl rfl rfl (by intro r hr;simp only[aQQ,aQU,or_false]at hr;rcases hr with rfl|rfl|rfl<;>rfl))<|Dd (by exact aA rfl rfl UP rfl (WV [CD,a,b] _ (hj a b ha hb)))<|Dd aM<|Zz<|aB<|Rt<|Qq
def NW(s:ByteArray)(i k:Nat):List ByteArray:=(List.range k).map fun k=>vZ (gO s i k) 15
theorem NV(s:ByteArray)(i k:Nat):NW s i (k+1)=NW s i k++[vZ (gO s i k) 15]:=by rw[NW,List.range_succ,List.map_append];rfl
theorem IN(s:ByteArray)(i k:Nat):(NW s i k).length=k:=by simp[NW]
theorem wU(s:ByteArray)(i k:Nat):(gO s i k).size=16:=gH _
theorem AW{b:Nat}(hb:b<1099511627776):∀(l:List ByteArray),(∀s∈l,s.size<=b)->(aP l).length<=(b+22)*l.length
 | [],_=>aQK _
 |s::r,h=>by
  have ih:=AW hb r (fun x hx=>h x (List.mem_cons_of_mem _ hx));have hs:=h s List.mem_cons_self;have e:aP (s::r)=(oL s).data.toList++aP r:=by rw[aP,List.flatMap_cons];rfl
  have h2:=nP (s:=s) (by omega);rw[e,aQF,aQG,nO,Nat.mul_add,Nat.mul_one];omega
theorem aDP(t:ByteArray)(H:aH)(ht:t.size<1099511627776):aI Tryz.prog 93 [sv t,iv 15] H (fun r H'=>r=sv (vZ t 15)/\H'=H):=UB t 15 H ht (by decide)
theorem aL3(s:ByteArray)(i:Nat)(H:aH)(hs:s.size<1099511627776)(hi:i<1099511627776):aI Tryz.prog 136 [sv s,iv (i:Int)] H (fun r H'=>r=sv (CH s i)/\H'=H):=by
 refine Pu ?_;refine Bd func136 rfl ntmps136<|Sr<|Dd aM<|Zz<|Sr<|Dd (by exact gS (id:=905) (sz:=1) (ty:=9) rfl rfl rfl)<|Zz<|Sq<|Sr<|Dd aE<|Zz<|aF ?_;refine bJ (σ:=Nat) (fun k=>([(0,sv s),(1,iv (i:Int)),(5,.osl 905 k 0 k),(7,iv (k:Int))],[(905,⟨k,1,9,cD (NW s i k)⟩)])) (fun k=>k<=18) (fun k=>18 - k) 0 (aQV _) ?_ ?_
 ·exact(cX.wk (Eb<|Eb<|Ea<|Eb<|trivial) (Hc (cA _ _)<|trivial) trivial)
 intro k hk;have hln:=IN s i k;have hnx:=NV s i k;refine Sr<|Dd cW<|Zz<|Sq ?_;refine Cn ?_ ?_<;>intro hc1
 ·have hlt:k<18:=by have:=aQA hc1;omega
  refine aC<|Sq<|aF<|Sr<|Dd aE<|Dd aM<|Zz<|Rg<|Dd aE<|Dd aE<|Dd aE<|Dd aE<|Dd (by exact aA rfl rfl call96 rfl (aAs s i k _ hs hi (by omega)))<|Dd (by exact aA rfl rfl aPm rfl (aDP (gO s i k) _ (by rw[wU];decide)))<|Dd (by exact aQ [[.str (vZ (gO s i k) 15)]] rfl cC rfl rfl rfl rfl rfl (by intro r hr;rw[aQH]at hr;subst hr;rfl))<|Dd (by exact cJ (ps:=[[.str (vZ (gO s i k) 15)]]) rfl cC xI rfl rfl rfl rfl rfl (by rw[eX,hln]) rfl (by intro r hr;rw[aQH]at hr;subst hr;rfl) (m:=1) rfl (by omega) rfl (kK _ (vZ (gO s i k) 15)))<|Dd aM<|Zz<|Rg<|Dd (by exact cB rfl rfl rfl (show IntKind.i64.wrap ((k:Int)+1)=((k+1:Nat):Int)by rw[jM (by omega) (by omega)];omega))<|Dd aE<|Zz ?_;refine⟨k+1,by omega,by omega,?_⟩;dsimp only;rw[hnx];exact(cX.wk (Eb<|Eb<|Ea<|Eb<|trivial) (Hc (cA _ _)<|trivial) trivial)
 have hge:k=18:=by have:=aQB hc1;omega
 subst hge;refine aW<|Sq ?_;refine gM.ent (cX.fz (id:=905) (E':=[(5,.pv (aZ (zJ s i)))]) (H':=[]) ((zJ s i).map encStr) rfl (eM _)
  (by intro p hp;simp only[aQQ,aQU,or_false]at hp;subst hp;exact⟨_,rfl,.osl (by rw[aQW,List.drop_zero];rfl)⟩) rfl trivial trivial) ?_
 exact Rg<|Dd aE<|Dd (by exact aA rfl rfl UP rfl (WV (zJ s i) _ (by have h:=AW (b:=16) (by decide) (zJ s i) (fun x hx=>by obtain ⟨k,_,rfl⟩:=List.mem_map.1 hx;exact Nat.le_of_eq (X2 (wU s i k) 15));rw[show (zJ s i).length=18 from IN s i 18]at h;omega)))<|Dd aM<|Zz<|aB<|Rt<|Qq
end Go.Proofs.YtmdicgjnmfolfaaGreatDoor
