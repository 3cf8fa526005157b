/-
  Parts of the proof: rules of a program logic, contracts, plain laws. Conditions: each theorem's own.
-/
import Derived.Test.YtmdicgjnmfolfaaGreatDoorKR7M4
import Derived.Lib.Overlaps
import Derived.WalkSpells
import Derived.Lib.SliceRun
import Derived.Lib.ItoaLen
set_option linter.unusedVariables false
set_option linter.unusedSimpArgs false
set_option maxRecDepth 100000
set_option maxHeartbeats 8000000
namespace Go.Proofs
open Tryz
theorem qR:type_of% call108:=call108
theorem oD:type_of% call109:=call109
theorem mJ:type_of% call110:=call110
theorem oC:type_of% call111:=call111
theorem RL:type_of% call147:=call147
theorem qQ:type_of% call158:=call158
theorem XV:type_of% call36:=call36
theorem aCY:type_of% call93:=call93
theorem XR:type_of% call94:=call94
theorem vn:type_of% func111:=func111
theorem vl:type_of% func147:=func147
theorem aBh:type_of% func158:=func158
theorem CZ:type_of% isAgg135:=isAgg135
theorem dk:type_of% ntmps111:=ntmps111
theorem di:type_of% ntmps147:=ntmps147
theorem aAa:type_of% ntmps158:=ntmps158
theorem gQ:type_of% underlying135:=underlying135
theorem xT:type_of% underlying174:=underlying174
theorem G6:type_of% underlying201:=underlying201
end Go.Proofs
namespace Go.Abs
variable{e:TypeId}{id g off len c l h sz b n k ty:Nat}{ob:Ob}{w:World}{ι:lR}{H H':aG}{I:Nat->Prop}{rows:List (List PV)}{f:List AV}{rows':List (List AV)}
section
theorem rA{w}{I}{ι}{H}{v}{id g off len c}{ob}(h:VRel w I ι H v (.osc id g off len c))(hH:H.get id=some ob)(hg:ob.g=g):
  0<ob.sz/\len<=c/\((∃b a,ι id=some (b,off+c)/\v=.slice (some ⟨b,a,none⟩) len c/\(0<c\/off=0->a=off*ob.sz))\/(ι id=none/\v=.slice none 0 0/\off=0/\len=0/\c=0)):=by
 cases h with
 |osc o' h1 h2 _ h3 =>
  simp_all
theorem nc{w}{I}{ι}{H}{v}{id g off len}{ob}(n:Rel I ι H w)(h:VRel w I ι H v (.osl id g off len))(a:H.get id=some ob)(l:ob.g=g):
  ∃c,len<=c/\c<=maxLen/\VRel w I ι H v (.osc id g off len c):=by
 have j:=pA h a l;obtain ⟨h1,⟨b,i,o,e,f,k⟩|⟨e,f,k,m⟩⟩:=kB h a l
 ·obtain ⟨_,_,⟨b',cap',cs,d,e2,e3,e4,e5,e6,e7⟩|⟨d,_⟩⟩:=(n.obj id ob a).cells j
  ·rw[e]at d;cases d;refine⟨i - off,by omega,by omega,?_⟩;subst f;refine .osc _ a (by omega) rfl fun _=>⟨j,by omega,.inl ⟨b,o,?_,rfl,fun hh=>k (by omega)⟩⟩
   grind
  rw[e]at d;cases d
 subst f k m;exact⟨0,aCl _,aCw _,.osc ob a (by omega) rfl fun _=>⟨j,aCl _,.inr ⟨e,rfl,rfl,rfl,rfl⟩⟩⟩
theorem La{w}{I}{ι}{H}{v}{id g off len c}{ob}(h:VRel w I ι H v (.osc id g off len c))(d:H.get id=some ob)(l:ob.g=g)(i:off+len<=ob.rows.length):
  VRel w I ι H v (.osl id g off len):=by
 obtain ⟨j,h1,⟨b,m,f,a,e⟩|⟨f,a,e,k,h6⟩⟩:=rA h d l
 ·subst a;refine .osl _ d (by omega) rfl fun _=>⟨j,i,.inl ⟨b,off+c,m,f,?_,fun hh=>e (by omega)⟩⟩
  simp_all
 subst a e k;exact .osl _ d (by omega) rfl fun _=>⟨j,i,.inr ⟨f,rfl,rfl,rfl⟩⟩
section
variable{P:Program}{G0:aG}{N:Nat}{Q:Exit->dC->aG->Prop}{E:dC}{code:Code}
theorem uz{t id g off n c}{ob}(l:E.get t=some (.osc id g off n c))(o:H.get id=some ob)(r:ob.g=g)(q:off+n<=ob.rows.length)(h:gC P G0 N code Q ((t,.osl id g off n)::E) H):gC P G0 N code Q E H:=by
 intro G k a w i;obtain ⟨I,s,m,d,j⟩:=i.rel;obtain ⟨v,p,f⟩:=j t _ l;refine h G k a w ⟨i.defers,i.size,I,s,m,d,fun u x b=>?_⟩;by_cases e:t=u
 ·subst e;rw[dC.get_cons_same]at b;cases b;exact⟨v,p,La f o r q⟩
 rw[dC.get_cons_other _ _ e]at b;exact j u x b
end
section
variable{P:Program}{N:Nat}{o:Oper}{E:dC}{T:TypeId}{x y:Operand}
theorem DQ{e}{id g off len c}{ob}(f:o.op=.call {callee:=.builtin .cap,args:=#[x],argTypes:=#[T]})(h:P.underlying T=some (.slice e))(k:aO E x=some (.osc id g off len c))(i:H.get id=some ob)(j:ob.g=g):cK P N o E H (.pv (.int .i64 c)) H :=.of_run fun a w I ι _ m=>⟨.int _ c,by
  obtain ⟨_,_,⟨b,oo,_,d,_⟩|⟨_,d,_,_,l⟩⟩:=rA (aI m k) i j
  ·simp[execOp,f,resolve,invoke,builtin,d,Builtin.cap_,run_underlying h,goInt]
  simp[execOp,f,resolve,invoke,builtin,d,l,Builtin.cap_,run_underlying h,goInt],.pv (.int _ _)⟩
theorem DP{e}{id g off len c}{ob}(f:o.op=.call {callee:=.builtin .len,args:=#[x],argTypes:=#[T]})(h:P.underlying T=some (.slice e))(k:aO E x=some (.osc id g off len c))(i:H.get id=some ob)(j:ob.g=g):cK P N o E H (.pv (.int .i64 len)) H :=.of_run fun a w I ι _ m=>⟨.int _ len,by
  obtain ⟨_,_,⟨b,oo,_,d,_⟩|⟨_,d,_,l,_⟩⟩:=rA (aI m k) i j
  ·simp[execOp,f,resolve,invoke,builtin,d,Builtin.len_,run_underlying h,goInt]
  simp[execOp,f,resolve,invoke,builtin,d,l,Builtin.len_,run_underlying h,goInt],.pv (.int _ _)⟩
theorem YG{lo hi:Option Operand}{j i K:Nat}(G:o.op=.slice T x lo hi none)(hS:fC P T e sz)(X:aO E x=some (.osc id g off len c))
  (q:H.get id=some ob) (U:ob.g=g) (s:ob.sz=sz) (p:bnd E lo 0=some (l:Int)) (m:bnd E hi len=some (h:Int)) (J:l<=h) (V:h<=c) (u:off+l=j) (A:h - l=i) (B:c - l=K):cK P N o E H (.osc id g j i K) H :=
 .of_run fun a w I ι hr z=>by
  have W:=aI z X;obtain ⟨L,hle,k⟩:=rA W q U;have Y:=hS.1;have C:=hS.2.1;have n:P.elem T=e:=by simp[Program.elem,Y]
  have f:P.underlying T=some (.slice (P.elem T)):=by simp_all
  subst u A B s;rcases k with⟨b,r,D,v,F⟩|⟨D,v,F,R,Q⟩
  ·have t:=mW (P:=P) (b:=true) (len:=len) (cap:=c) z p m J V;have d:=run_slice_any (P:=P) w T (some ⟨b,r,none⟩) len c f (lo.map a.eval) (hi.map a.eval) none;refine⟨.slice (some ⟨b,if c=l then r else r+l*ob.sz,none⟩) (h - l) (c - l),?_,.osc ob q (by omega) rfl fun _=>⟨L,by omega,.inl ⟨b,_,?_,rfl,fun hlt=>?_⟩⟩⟩
   ·simp only[execOp,G,v];simp only[run_sliceAt_slice w T _ _ _ _ f,Sem.run_bind,d,Option.map_none,t,n,C,sliced,Result.andThen_ok,Sem.run_pure];by_cases O:c=l
    ·grind
    simp[O,Addr.add_lit]
   all_goals grind
  subst F R Q;have M:h=0:=by omega
  have S:l=0:=by omega
  subst M S;have t:=mW (P:=P) (b:=true) (len:=0) (cap:=0) z p m J (by simp);have d:=run_slice_any (P:=P) w T none 0 0 f (lo.map a.eval) (hi.map a.eval) none;refine⟨.slice none 0 0,?_,.osc ob q (by omega) rfl fun _=>⟨L,by omega,.inr ⟨D,rfl,rfl,rfl,rfl⟩⟩⟩;simp only[execOp,G,v];simp[run_sliceAt_slice w T _ _ _ _ f,d,t,n,C,sliced]
def Vw(w:World)(I:Nat->Prop)(ι:lR)(H:aG)(sz:Nat)(v:Value)(len:Nat)(rows:List (List AV)):Prop :=(∃a c news,v=.slice (some a) len c/\rows.length<=len/\news.length=rows.length*sz/\(∀j u,news[j]?=some u->w.cell? (a.add j)=some u)/\(∀u∈news,u.oneCell'=true)/\sR w I ι H sz news rows) \/
 (v=.slice none 0 0/\len=0/\rows=[])
theorem sR.take{I}{l:List Value}{rows}(h:sR w I ι H sz l rows)(hl:∀r∈rows,r.length=sz)(k:Nat):sR w I ι H sz (l.take (k*sz)) (rows.take k):=by
 intro i r b j a d;rw[List.getElem?_take]at b
 split at b
 ·obtain ⟨u,e,c,f⟩:=h i r b j a d;have hjs:j<sz:=by grind
  refine⟨u,?_,c,f⟩;rw[List.getElem?_take,aCe]
  ·exact e
  have:(i+1)*sz<=k*sz:=Nat.mul_le_mul_right _ (by omega);rw[Nat.add_mul]at this;omega
 grind
theorem sR.drop{w}{I}{ι}{H}{sz}{l}{rows}(h:sR w I ι H sz l rows)(k):sR w I ι H sz (l.drop (k*sz)) (rows.drop k):=by
 intro i r b j a c;rw[List.getElem?_drop]at b;obtain ⟨u,q1,q2,q3⟩:=h _ r b j a c
 grind
theorem ya{w}{I}{ι}{H}{sz id g off len c}{ob}{v}(u:Rel I ι H w)(h:VRel w I ι H v (.osc id g off len c))(i:H.get id=some ob)(q:ob.g=g)(f:ob.sz=sz)(k)(hk:k<=len)(e:off+k<=ob.rows.length):
  Vw w I ι H sz v len ((ob.rows.drop off).take k):=by
 obtain ⟨B,h1,⟨b,p,s,m,l⟩|⟨s,m,l,z,h6⟩⟩:=rA h i q
 ·have A:VRel w I _ H (.slice (some ⟨b,p,none⟩) k c) (.osl _ g _ k) :=
   .osl _ i (by omega) rfl fun _=>⟨B,e,.inl ⟨b,off+c,p,s,by simp,fun hh=>l (by omega)⟩⟩
  rcases lu u A i q f with⟨a,c',d,n,r,t,C,D⟩|⟨n,r⟩
  ·injection n with j q2 q3;injection j with j;subst j;exact .inl ⟨_,c,d,m,by omega,r,t,C,D⟩
  cases n
 subst l z;have:k=0:=by omega
 subst this;exact .inr ⟨m,rfl,rfl⟩
theorem Rel.write{cap g2:Nat}{cs:Array Value}{d:List Value}{c:List (List AV)}(t:Rel I ι H w)(Q:H.get id=some ob)(p:ι id=some (b,cap))(D:w.heap[b]?=some (.cells cs ob.ty (0,0)))
  (U:d.length=c.length*ob.sz) (V:sR w I ι H ob.sz d c) (L:∀r∈c,r.length=ob.sz) (Z:off<=ob.rows.length) (Y:off+c.length<=cap) (F:ob.g<=g2)
  (X:H'.get id=some ⟨g2,ob.sz,ob.ty,ob.rows.take off++(c++ob.rows.drop (off+c.length))⟩) (h2:∀j,j≠id->H'.get j=H.get j) :
  Rel I ι H' (w.setRow b (cs.toList.take (off*ob.sz)++d++cs.toList.drop (off*ob.sz+d.length)).toArray)/\Step I ι H w I ι H' (w.setRow b (cs.toList.take (off*ob.sz)++d++cs.toList.drop (off*ob.sz+d.length)).toArray):=by
 obtain ⟨p1,q,⟨b',cap',cs',G,R,e3,S,e5,e5',W⟩|⟨G,_⟩⟩:=(t.obj id ob Q).cells ((t.obj id ob Q).pos p D)
 ·rw[p]at G;cases G;rw[D]at R;cases R;have l:sR w I ι H ob.sz cs.toList ob.rows:=fun i r s k a K=>by
   obtain ⟨v,A,C,M⟩:=W i r s k a K;exact⟨v,by simpa using A,C,M⟩
  have B:off<=cap:=by omega
  have O:(cs.toList.take (off*ob.sz)).length=(ob.rows.take off).length*ob.sz:=by
   have:off*ob.sz<=cap*ob.sz:=Nat.mul_le_mul_right _ B;rw[aCt,aCt,Array.length_toList,S,Nat.min_eq_left this,Nat.min_eq_left Z]
  have J:off*ob.sz+d.length=(off+c.length)*ob.sz:=by rw[U,Nat.add_mul]
  have f:sR w I ι H ob.sz (d++(cs.toList.drop (off*ob.sz+d.length)++[])) (c++ob.rows.drop (off+c.length)):=by
   refine sR.app V U ?_;rw[J];exact l.drop _
  rw[List.append_nil]at f;have m:=sR.app (l3:=[]) (l.take q off) O f;rw[List.append_nil]at m;have n:(cs.toList.take (off*ob.sz)++d++cs.toList.drop (off*ob.sz+d.length)).toArray.size=cap*ob.sz:=by
   have:(off+c.length)*ob.sz<=cap*ob.sz:=Nat.mul_le_mul_right _ Y;simp only[List.size_toArray,aCg,aCt,aCu,Array.length_toList,S];omega
  refine Rel.update (ob':=⟨g2,ob.sz,ob.ty,ob.rows.take off++(c++ob.rows.drop (off+c.length))⟩) t Q p D F rfl rfl (fun _=>?_) n ?_ (fun r z=>?_) (fun i r s k a K=>?_) X h2
  ·simp only[aCg,aCt,aCu];omega
  ·simp only[aCg,aCt,aCu];omega
  ·rcases List.mem_append.1 z with h|h
   ·exact q r (List.mem_of_mem_take h)
   rcases List.mem_append.1 h with h|h
   ·exact L r h
   exact q r (List.mem_of_mem_drop h)
  obtain ⟨u,A,C,M⟩:=m i r s k a K;refine⟨u,?_,C,M⟩;rw[List.getElem?_toArray,List.append_assoc];exact A
 simp_all
theorem SO{off n}{rows:List (List AV)}(h:n=0):rows.take off++([]++rows.drop (off+n))=rows:=by simp_all
theorem Bj{D S:TypeId}{f:Nat}{h:List (List AV)}{H2:aG}(ho:o.op=.call {callee:=.builtin .copy,args:=#[x,y],argTypes:=#[D,S]})(hS:fC P D e sz)
  (hd:∀(a:Act) (w:World) (I:Nat->Prop) (ι:lR),Rel I ι H w->kS w I ι H E a->∃c,VRel w I ι H (a.eval x) (.osc id g off len c)) (hH:H.get id=some ob) (hg:ob.g=g) (hsz:ob.sz=sz) (X:off<=ob.rows.length)
  (p:∀(a:Act) (w:World) (I:Nat->Prop) (ι:lR),Rel I ι H w->kS w I ι H E a->Vw w I ι H sz (a.eval y) f h) (hrl2:∀r∈h,r.length=sz) (hn:h.length=n) (Z:min f len=n)
  (O:∀j,H2.get j=(H.set id ⟨g,sz,ob.ty,ob.rows.take off++(h++ob.rows.drop (off+n))⟩).get j):cK P N o E H (.pv (.int .i64 n)) H2:=by
 intro a w I ι _ _ G W K Q hk;obtain ⟨c,hv⟩:=hd a w I ι G W;obtain ⟨hz,h1,L⟩:=rA hv hH hg;have k:Nat.min f len=n:=Z;have V:=hS.2.1;have U:=hS.1;subst hg hsz;have A:n=0->(∀j,H2.get j=H.get j):=fun h0 j=>by
  rw[O j];have hr0:h=[]:=List.eq_nil_of_length_eq_zero (by omega);subst hr0;rw[SO h0];by_cases e:j=id
  ·subst e;rw[aG.get_set_same,hH]
  exact aG.get_set_other _ _ e
 have l:∀d:List Value,∀v C,a.eval y=.slice (some v) f C->d.length=n*ob.sz->(∀j u,d[j]?=some u->w.cell? (v.add j)=some u)->(Builtin.firstCells ob.sz n (a.eval y)).run P w=.ok d.toArray w:=fun d v C J e2 e3=>by
  rw[J];exact run_firstCells_some (P:=P) w ob.sz n v f C d e2 e3
 rcases L with⟨b,oo,c1,c2,c3⟩|⟨c1,c2,c3,c4,c5⟩
 ·by_cases m:n=0
  ·obtain ⟨Y,k3⟩:=G.congr (A m);have z:(execOp a.eval o).run P w=.ok (.value (.int .i64 ((0:Nat):Int))) w:=by
    unfold execOp;have F:(Builtin.firstCells ob.sz n (a.eval y)).run P w=.ok #[] w:=by
     rcases p a w I ι G W with⟨v,C,d,i,B,t,M,s5,s6⟩|⟨i,B,t⟩
     ·have:=l d v C i (by grind) M;have R:d=[]:=List.eq_nil_of_length_eq_zero (by simp_all);rw[this,R]
     rw[i];exact run_firstCells_none (P:=P) (w:=w) ob.sz n 0 0
    have q:(Builtin.lenOf (a.eval y)).run P w=.ok f w:=by
     rcases p a w I ι G W with⟨v,C,d,i,B,t,M,s5,s6⟩|⟨i,B,t⟩
     ·rw[i];rfl
     rw[i,B];rfl
    simp only[ho,resolve,invoke,builtin,Sem.run_bind,Sem.run_pure,Result.andThen_ok,List.map_toArray,List.map_cons,List.map_nil,c2,Builtin.copy_,run_underlying U,V];simp only[List.getElem?_toArray,List.getElem?_cons_zero,List.getElem?_cons_succ,run_underlying U,Sem.run_bind,Sem.run_pure,Result.andThen_ok,V,q,k,F];simp[storeCells,goInt,m]
   unfold Oper.wpW;rw[z];subst m;exact hk _ _ I ι _ _ ⟨rfl,rfl⟩ (.pv (.int _ _)) Y k3
  obtain ⟨p1,p2,⟨b',cap',cs,J,e2,e3,e4,e5,e5',e6⟩|⟨J,_⟩⟩:=(G.obj id ob hH).cells hz
  ·rw[c1]at J;cases J;have hoo:=c3 (by omega);subst hoo;rcases p a w I ι G W with⟨v,C,d,i,B,t,M,s5,s6⟩|⟨i,B,t⟩
   ·have hnl:d.length=n*ob.sz:=by rw[t,hn]
    have F:=l d v C i hnl M;have hfit:off*ob.sz+0+d.length<=cs.size:=by
     rw[e4,hnl,Nat.add_zero,<-Nat.add_mul];exact Nat.mul_le_mul_right _ (by omega)
    have hst:=run_storeCells_at P b (off*ob.sz) ob.ty d 0 cs w e2 hfit s5;simp only[Nat.add_zero]at hst;obtain ⟨Y,k3⟩:=Rel.write (H':=H2) (off:=off) (g2:=ob.g) G hH c1 e2 t s6 hrl2 X (by omega) (aCl _) (by rw[O,aG.get_set_same,hn]) (fun j hj=>by rw[O,aG.get_set_other _ _ hj]);unfold Oper.wpW execOp;simp only[ho,resolve,invoke,builtin,Sem.run_bind,Sem.run_pure,Result.andThen_ok,List.map_toArray,List.map_cons,List.map_nil,c2,Builtin.copy_,run_underlying U,V];have q:(Builtin.lenOf (a.eval y)).run P w=.ok f w:=by rw[i];rfl
    simp only[List.getElem?_toArray,List.getElem?_cons_zero,List.getElem?_cons_succ,run_underlying U,Sem.run_bind,Sem.run_pure,Result.andThen_ok,V,q,k,F,hst];exact hk _ _ I ι _ _ ⟨rfl,rfl⟩ (.pv (.int _ _)) Y k3
   omega
  rw[c1]at J;cases J
 have m:n=0:=by omega
 obtain ⟨Y,k3⟩:=G.congr (A m);have z:(execOp a.eval o).run P w=.ok (.value (.int .i64 ((0:Nat):Int))) w:=by
  unfold execOp;have F:(Builtin.firstCells ob.sz n (a.eval y)).run P w=.ok #[] w:=by
   rcases p a w I ι G W with⟨v,C,d,i,B,t,M,s5,s6⟩|⟨i,B,t⟩
   ·have:=l d v C i (by rw[t,hn]) M;have R:d=[]:=List.eq_nil_of_length_eq_zero (by rw[t,hn,m];simp);rw[this,R]
   rw[i];exact run_firstCells_none (P:=P) (w:=w) ob.sz n 0 0
  have q:(Builtin.lenOf (a.eval y)).run P w=.ok f w:=by
   rcases p a w I ι G W with⟨v,C,d,i,B,t,M,s5,s6⟩|⟨i,B,t⟩
   ·rw[i];rfl
   rw[i,B];rfl
  rw[c4]at k;simp only[ho,resolve,invoke,builtin,Sem.run_bind,Sem.run_pure,Result.andThen_ok,List.map_toArray,List.map_cons,List.map_nil,c2,Builtin.copy_,run_underlying U,V];simp only[List.getElem?_toArray,List.getElem?_cons_zero,List.getElem?_cons_succ,run_underlying U,Sem.run_bind,Sem.run_pure,Result.andThen_ok,V,q,k,F];simp[storeCells,goInt,m]
 unfold Oper.wpW;rw[z];subst m;exact hk _ _ I ι _ _ ⟨rfl,rfl⟩ (.pv (.int _ _)) Y k3
end
end
section
section
variable{P:Program}{N:Nat}{o:Oper}{E:dC}{T:TypeId}{x y:Operand}
theorem sS(t u ty e:TypeId)(i:TypeInfo)(z:Value)(k C:IntKind)(A:P.underlying t=some (.slice e))(p:P.underlying u=some (.int C))(hi:P.info? e=some i)(B:i.zero=some z)
  (b:Option Addr) (c d:Nat) (f:List Value) (hf:∀w:World,(∀a:Addr,w.cell? a=w.cell? a)->True) (s:(Builtin.firstCells i.size c (.slice b c d)).run P w.drew=.ok f.toArray w.drew)
  (n:Nat) (h0:0<n) (hs:0<i.size) (hg:d<c+n) (h63:((c+n:Nat):Int)<=9223372036854775807) (hfit:Builtin.nextslicecap (c+n) d*i.bytes<=281474976710656) (h48:n*i.bytes<=281474976710656) :
  (Builtin.append_ #[t,u] ty #[.slice b c d,.int k n]).run P w =
   .ok (.slice (some ⟨w.heap.size,0,none⟩) (c+n) (grownCap w (c+n) d e))
    (w.drew.alloc (.cells (f.toArray++Builtin.zeroCells z.cells n++Builtin.zeroCells z.cells (grownCap w (c+n) d e - (c+n))) e)):=by
 have D:¬ (c+n<=d):=by omega
 have v:IntKind.i64.wrap (n:Int)=n:=by rw[IntKind.wrap_i64];omega
 have l:¬ (9223372036854775807<((c:Int)+(n:Int))):=by omega
 have m:¬ (281474976710656<Builtin.nextslicecap (c+n) d*i.bytes):=by omega
 have j:¬ (281474976710656<(n:Int)*(i.bytes:Int)):=by
  omega
 have g:¬ ((n:Int)<0):=by omega
 have h:n≠0:=by omega
 have q:¬ (n*i.size=0):=Nat.mul_ne_zero h (by omega);simp[Builtin.append_,run_underlying A,run_underlying p,sizeOf,typeInfo,zeroValue,hi,B,asInt,asIntOf,v,D,h,g,q,l,m,j,Question.forced,s,newRow,grownCap]
theorem qa{z:Value}{b:List AV}(g:A9 w I ι H z.cells b)(p:b.length=sz)(d:z.cells.size=sz)(v:0<sz)(n:Nat):
  (Builtin.zeroCells z.cells n).toList.length=n*sz/\(∀u∈(Builtin.zeroCells z.cells n).toList,u.oneCell'=true)/\sR w I ι H sz (Builtin.zeroCells z.cells n).toList (List.replicate n b):=by
 have c:∀j,j<n*sz->∃f:j % sz<z.cells.size,(Builtin.zeroCells z.cells n).toList[j]?=some (z.cells[j % sz]):=by
  intro j s;have f:j % sz<z.cells.size:=by rw[d];exact Nat.mod_lt _ v
  refine⟨f,?_⟩;rw[Array.getElem?_toList];simp only[Builtin.zeroCells,Array.getElem?_map]
  grind
 have q:(Builtin.zeroCells z.cells n).toList.length=n*sz:=by rw[Array.length_toList,size_zeroCells,d]
 refine⟨q,?_,?_⟩
 ·intro u G;obtain ⟨j,s⟩:=aDA.1 G;have D:j<n*sz:=by
   have:=(aCj.1 s).1;rw[q]at this;exact this
  obtain ⟨f,e⟩:=c j D;rw[e]at s;cases s;have B:j % sz<b.length:=by omega
  obtain ⟨u,h,A,_⟩:=g.2 _ _ (aCk B);rw[Array.getElem?_eq_getElem f]at h;cases h;exact A
 intro i r t k av f;rw[List.getElem?_replicate]at t
 split at t
 ·cases t;rename_i C;have m:k<sz:=by rw[<-p];exact(aCj.1 f).1
  have l:i*sz+k<n*sz:=by
   have:(i+1)*sz<=n*sz:=Nat.mul_le_mul_right _ C;rw[Nat.add_mul]at this;omega
  obtain ⟨hk2,e⟩:=c _ l;obtain ⟨u,h,A,F⟩:=g.2 k av f;refine⟨u,?_,A,F⟩;rw[e];rw[Array.getElem?_eq_getElem (by rw[d];exact m)]at h;cases h;congr 2;exact E7 m
 cases t
theorem N3{U:TypeId}{m bytes id2:Nat}{kk kn:IntKind}{q:Int}(ho:o.op=.call {callee:=.builtin .append,args:=#[x,y],argTypes:=#[T,U]})(hS:fC P T e sz)(Z:P.underlying U=some (.int kn))(A:EI P e sz bytes)(hZ:eL P e f)(M:f.length=sz)
  (hx:aO E x=some (.osc id g 0 n c)) (hH:H.get id=some ob) (hg:ob.g=g) (V:ob.sz=sz) (O:n<=ob.rows.length)
  (hy:aO E y=some (.pv (.int kk q))) (hq:q=(m:Int)) (hm0:0<m) (hroom:c<n+m) (hk:n+m=k) (p:(n+m)*bytes<=140737488355328) (hid:H.get id2=none)
  (J:ob.rows.take n++List.replicate m f=rows'):cK P N o E H (.osl id2 0 0 k) ((id2,⟨0,sz,e,rows'⟩)::H):=by
 intro a w I ι _ _ hr he K Q hkk;have hmax:=YR A.2 p;obtain ⟨⟨i,z,hi,hz,l,W,hzs,hsz0⟩,_⟩:=A;obtain ⟨t,zv,z1,z2,z3⟩:=hZ;have ezz:t=z:=by
  have:=z1 w;simp[zeroValue,typeInfo,hi,hz]at this;exact this.symm
 subst ezz hg V hk J hq;have hml:n+m<=maxLen:=by simp only[maxLen];omega
 have hv:=aI he hx;have hvy:=(aI he hy).int_inv;obtain ⟨s,h1,G⟩:=rA hv hH rfl;have hT:=hS.1;have p2:=((hr.obj id ob hH).cells s).2.1;have hcr:=A9.of_cells (ZV.rel (w:=w) (I:=I) (ι:=ι) (H:=H) z2) z3;obtain ⟨zl,_,zr⟩:=qa hcr M hzs s m;have hrl:∀r∈ob.rows.take n++List.replicate m f,r.length=ob.sz:=fun r hr'=>by
  grind
 have g1:aG.get ((id2,(⟨0,ob.sz,e,ob.rows.take n++List.replicate m f⟩:Ob))::H) id2=some ⟨0,ob.sz,e,ob.rows.take n++List.replicate m f⟩:=get_cons_same _ _ _;have g2:∀j,j≠id2->aG.get ((id2,(⟨0,ob.sz,e,ob.rows.take n++List.replicate m f⟩:Ob))::H) j=H.get j:=fun j hj=>get_cons_other _ _ hj;have R:(ob.rows.take n++List.replicate m f).length=n+m:=by simp_all
 have hge:=grownCap_ge w (n+m) c e;have hcm:=grownCap_le_maxLen w (n+m) c e hml;have v:∀(d:List Value),d.length=n*ob.sz->sR w I ι H ob.sz d (ob.rows.take n) ->
   (Builtin.append_ #[T,U] o.type #[a.eval x,a.eval y]).run P w=.ok (.slice (some ⟨w.heap.size,0,none⟩) (n+m) (grownCap w (n+m) c e)) (w.drew.alloc (.cells (d.toArray++Builtin.zeroCells t.cells m++Builtin.zeroCells t.cells (grownCap w (n+m) c e - (n+m))) e))->o.wpW P a w K Q:=by
  intro d L q2 h;obtain ⟨k2,k3⟩:=Rel.place (H':=(id2,⟨0,ob.sz,e,ob.rows.take n++List.replicate m f⟩)::H) (id:=id2) (cap:=grownCap w (n+m) c e) (ob':=⟨0,ob.sz,e,ob.rows.take n++List.replicate m f⟩)
   (cs':=d.toArray++Builtin.zeroCells t.cells m++Builtin.zeroCells t.cells (grownCap w (n+m) c e - (n+m)))
   (w':=w.drew.alloc (.cells (d.toArray++Builtin.zeroCells t.cells m++Builtin.zeroCells t.cells (grownCap w (n+m) c e - (n+m))) e)) hr rfl rfl rfl rfl
   (fun o' ho'=>by simp_all) s (by
    simp only[Array.size_append,List.size_toArray,size_zeroCells,hzs,L,<-Nat.add_mul]
    simp_all) (by simp_all) hcm hrl (fun i' r F k' a' hk'=>by
     obtain ⟨u,S,t2,t3⟩:=sR.app (l3:=(Builtin.zeroCells t.cells (grownCap w (n+m) c e - (n+m))).toList) q2 (by rw[L,aCt,Nat.min_eq_left O]) zr i' r F k' a' hk';refine⟨u,?_,t2,t3⟩;rw[<-Array.getElem?_toList]
     simpa[List.append_assoc]using S) g1 g2
  unfold Oper.wpW execOp;simp only[ho,resolve,invoke,builtin,Sem.run_bind,Sem.run_pure,Result.andThen_ok,List.map_toArray,List.map_cons,List.map_nil,h];exact hkk _ _ I _ _ _ ⟨rfl,rfl⟩ (.osl _ g1 (aCl _) rfl fun _=>⟨s,by rw[R];omega,.inl ⟨w.heap.size,_,0,by simp;rfl,by simp,fun _=>by simp⟩⟩) k2 k3
 have B:Builtin.nextslicecap (n+m) c*i.bytes<=281474976710656:=growslice_fits (by omega) (by rw[W];exact p);have C:m*i.bytes<=281474976710656:=by
  have:m*i.bytes<=(n+m)*i.bytes:=Nat.mul_le_mul_right _ (by omega);rw[W]at this |-;omega
 rcases G with⟨b,oo,c1,c2,c3⟩|⟨c1,c2,c3,c4,c5⟩
 ·have hoo:oo=0:=by rw[c3 (.inr rfl)];simp
  subst hoo;have Y:=ya hr (show VRel w I ι H (.slice (some ⟨b,0,none⟩) n c) (.osc id ob.g 0 n c)by rw[<-c2];exact hv) hH rfl rfl n (aCl _) (by omega);rw[List.drop_zero]at Y;rcases Y with⟨ad0,c0,d,S,t2,t3,t4,t5,t6⟩|⟨S,_⟩
  ·injection S with L q2 q3;injection L with L;subst L;have X:d.length=n*ob.sz:=by rw[t3,aCt,Nat.min_eq_left O]
   have D:=run_firstCells_some (P:=P) w.drew i.size n ⟨b,0,none⟩ n c d (by rw[l];exact X) (by simpa using t4);have h:=sS (P:=P) (w:=w) T U o.type e i t kk kn hT Z hi hz (some ⟨b,0,none⟩) n c d (fun _ _=>trivial) D m hm0 (by rw[l];exact s) (by omega) (by omega) B C;exact v d X t6 (by rw[c2,hvy];exact h)
  cases S
 subst c4 c5;have D:=run_firstCells_none (P:=P) (w:=w.drew) i.size 0 0 0;have h:=sS (P:=P) (w:=w) T U o.type e i t kk kn hT Z hi hz none 0 0 [] (fun _ _=>trivial) D m hm0 (by rw[l];exact s) (by omega) (by omega) B C;exact v [] (by simp) (by intro i r F;simp at F) (by rw[c2,hvy];exact h)
theorem sj(ho:o.op=.call {callee:=.builtin .clear,args:=#[x],argTypes:=#[T]})(hS:fC P T e sz)(hZ:eL P e f)(h:f.length=sz)
  (hx:aO E x=some (.osc id g off len c)) (V:H.get id=some ob) (hg:ob.g=g) (G:ob.sz=sz) (R:off<=ob.rows.length) (s:ob.rows.take off++(List.replicate len f++ob.rows.drop (off+len))=rows') :
  cK P N o E H .any ((id,⟨g,sz,ob.ty,rows'⟩)::H):=by
 intro a w I W _ _ hr he K Q L;obtain ⟨z,zv,z1,z2,z3⟩:=hZ;subst hg G s;have hv:=aI he hx;obtain ⟨v,h1,t⟩:=rA hv V rfl;have hT:=hS.1;have B:=A9.of_cells (ZV.rel (w:=w) (I:=I) (ι:=W) (H:=H) z2) z3;have p:z.cells.size=ob.sz:=by rw[<-h];exact B.1
 have m:len=0->(execOp a.eval o).run P w=.ok (.value (.tuple #[])) w->o.wpW P a w K Q:=by
  intro U J;obtain ⟨k2,k3⟩:=hr.congr (H':=(id,⟨ob.g,ob.sz,ob.ty,ob.rows.take off++(List.replicate len f++ob.rows.drop (off+len))⟩)::H) (fun j=>by
   subst U;rw[List.replicate_zero,SO rfl];by_cases e:j=id
   ·subst e;rw[get_cons_same,V]
   exact get_cons_other _ _ e)
  unfold Oper.wpW;rw[J];exact L _ _ I W _ _ ⟨rfl,rfl⟩ (.any _) k2 k3
 rcases t with⟨b,oo,Z,X,c3⟩|⟨Z,X,c3,c4,c5⟩
 ·by_cases U:len=0
  ·refine m U ?_;unfold execOp;simp only[ho,resolve,invoke,builtin,Sem.run_bind,Sem.run_pure,Result.andThen_ok,List.map_toArray,List.map_cons,List.map_nil,X,U,Builtin.clear_];simp[run_underlying hT]
  obtain ⟨p1,p2,⟨b',cap',cs,M,e2,e3,e4,e5,e5',e6⟩|⟨M,_⟩⟩:=(hr.obj id ob V).cells v
  ·rw [Z] at M;cases M;have hoo:=c3 (by omega);subst hoo;have q:(Builtin.zeroCells z.cells len).toList.length=(List.replicate len f).length*ob.sz:=by
    rw[Array.length_toList,size_zeroCells,p,List.length_replicate]
   have n:∀j,j<len*ob.sz->∃A:j % ob.sz<z.cells.size,(Builtin.zeroCells z.cells len).toList[j]?=some (z.cells[j % ob.sz]):=by
    intro j C;have A:j % ob.sz<z.cells.size:=by rw[p];exact Nat.mod_lt _ v
    refine⟨A,?_⟩;rw[Array.getElem?_toList];simp only[Builtin.zeroCells,Array.getElem?_map]
    grind
   have F:∀u∈(Builtin.zeroCells z.cells len).toList,u.oneCell'=true:=by
    intro u hu;obtain ⟨j,C⟩:=aDA.1 hu;have hjl:j<len*ob.sz:=by
     have:=(aCj.1 C).1;rw[q,List.length_replicate]at this;exact this
    obtain ⟨A,e⟩:=n j hjl;rw[e]at C;cases C;have hkr:j % ob.sz<f.length:=by rw[h];exact Nat.mod_lt _ v
    obtain ⟨u,S,q2,_⟩:=B.2 _ _ (aCk hkr);rw[Array.getElem?_eq_getElem A]at S;cases S;exact q2
   have hlr:sR w I W H ob.sz (Builtin.zeroCells z.cells len).toList (List.replicate len f):=by
    intro i r Y k av A;rw[List.getElem?_replicate]at Y
    split at Y
    ·cases Y;rename_i hlt;have O:k<ob.sz:=by rw[<-h];exact(aCj.1 A).1
     have l:i*ob.sz+k<len*ob.sz:=by
      have:(i+1)*ob.sz<=len*ob.sz:=Nat.mul_le_mul_right _ hlt;rw[Nat.add_mul]at this;omega
     obtain ⟨hk2,e⟩:=n _ l;obtain ⟨u,S,q2,q3⟩:=B.2 k av A;refine⟨u,?_,q2,q3⟩;rw[e];rw[Array.getElem?_eq_getElem (by rw[p];exact O)]at S;cases S;congr 2;exact E7 O
    cases Y
   have l:off*ob.sz+0+(Builtin.zeroCells z.cells len).toList.length<=cs.size:=by
    rw[e4,q,List.length_replicate,Nat.add_zero,<-Nat.add_mul];exact Nat.mul_le_mul_right _ (by omega)
   have D:=run_storeCells_at P b (off*ob.sz) ob.ty (Builtin.zeroCells z.cells len).toList 0 cs w e2 l F;simp only[Nat.add_zero]at D;obtain ⟨k2,k3⟩:=Rel.write (H':=(id,⟨ob.g,ob.sz,ob.ty,ob.rows.take off++(List.replicate len f++ob.rows.drop (off+len))⟩)::H) (off:=off) (g2:=ob.g) hr V Z e2 q hlr (fun r hr'=>by rw[(List.mem_replicate.1 hr').2];exact h) R (by rw[List.length_replicate];omega) (aCl _) (by rw[get_cons_same,List.length_replicate]) (fun j C=>get_cons_other _ _ C);unfold Oper.wpW execOp;simp only[ho,resolve,invoke,builtin,Sem.run_bind,Sem.run_pure,Result.andThen_ok,List.map_toArray,List.map_cons,List.map_nil,X,Builtin.clear_];obtain ⟨n',hn'⟩:∃n',len=n'+1:=⟨len - 1,by omega⟩;subst hn';simp only[List.getElem?_toArray,List.getElem?_cons_zero,run_underlying hT,Sem.run_bind,Sem.run_pure,Result.andThen_ok,z1,D];exact L _ _ I W _ _ ⟨rfl,rfl⟩ (.any _) k2 k3
  rw[Z]at M;cases M
 refine m c4 ?_;unfold execOp;simp only[ho,resolve,invoke,builtin,Sem.run_bind,Sem.run_pure,Result.andThen_ok,List.map_toArray,List.map_cons,List.map_nil,X,Builtin.clear_];simp[run_underlying hT]
end
end
section
section
variable{P:Program}{N:Nat}{o:Oper}{E:dC}{T t t':TypeId}{x y:Operand}
theorem fb{e}(w)(h:P.underlying t=some (.slice e))(a)(n c b c'):(binOp .eql t (.slice a n c) (.slice none b c')).run P w=.ok (.bool a.isNone) w:=by simp[binOp];cases a<;>simp[Op.equal,Op.maxDepth,Lib.run_equalIn_slice_nil w _ t e _ n c _ _ h]
theorem gb(i:o.op=.binOp .eql t x (.const (.slice none 0 0)) t')(p:P.underlying t=some (.slice e))(j:aO E x=some (.pv (.sl rows))):dp P N o E H (fun r H'=>H'=H/\∃b,r=.pv (.bool b)/\(b=true->rows=[])):=by
 intro a w I m _ _ k h K Q s;have f:=(aI h j).pv_inv;have l:a.eval (.const (.slice none 0 0))=.slice none 0 0:=rfl;obtain ⟨b,n,c,q,g⟩:∃(b:Option Addr) (n c:Nat),a.eval x=.slice b n c/\(b.isNone=true->rows=[]):=by
  generalize a.eval x=v at f;cases f with
  |nilsl=>simp_all
  |empsl a=>simp_all
  |sl b off cap sz _ cs g h2 h3 h4 h5 h6=>simp_all
 unfold Oper.wpW;have d:(execOp a.eval o).run P w=.ok (.value (.bool b.isNone)) w:=by
  simp only[execOp,i,q,l,eqGuard_at_slice,Sem.run_bind,Sem.run_pure,Result.andThen_ok,fb _ p]
 rw[d];exact s _ _ I m _ _ ⟨rfl,_,rfl,g⟩ (.pv (.bool _)) k (Step.refl _ _ _ _)
def Qn(E:dC)(H:aG)(sz:Nat)(y:Operand)(len:Nat)(rows:List (List AV)):Prop :=∀(a:Act) (w:World) (I:Nat->Prop) (ι:lR),Rel I ι H w->kS w I ι H E a->Vw w I ι H sz (a.eval y) len rows
def Qo(E:dC)(H:aG)(x:Operand)(id g off len:Nat):Prop :=∀(a:Act) (w:World) (I:Nat->Prop) (ι:lR),Rel I ι H w->kS w I ι H E a->∃c,VRel w I ι H (a.eval x) (.osc id g off len c)
theorem jc{id g off len}{ob}(d:aO E x=some (.osl id g off len))(i:H.get id=some ob)(b:ob.g=g):Qo E H x id g off len:=fun a w I ι e f =>
 let ⟨c,_,_,h⟩:=nc e (aI f d) i b
 ⟨c,h⟩
theorem Ra{D S e}{ob}{a rows'}(q:o.op=.call {callee:=.builtin .copy,args:=#[x,y],argTypes:=#[D,S]})(hS:fC P D e sz)
  (hd:Qo E H x id g off len) (m:H.get id=some ob) (p:ob.g=g) (k:ob.sz=sz) (d:off<=ob.rows.length)
  (f:Qn E H sz y b a) (i:∀r∈a,r.length=sz) (l:a.length=n) (h:min b len=n)
  (c:ob.rows.take off++(a++ob.rows.drop (off+n))=rows'):cK P N o E H (.pv (.int .i64 n)) ((id,⟨g,sz,ob.ty,rows'⟩)::H):=by
 subst c;exact Bj q hS hd m p k d f i l h (fun j=>wU _ _ _ j)
end
def al(ob:Ob)(k:Nat):Ob:=⟨k,ob.sz,ob.ty,[]⟩
theorem Step.deadK{w}{I}{ι}{H}{id k}{ob}(g:H.get id=some ob)(i:ob.g<k):Step I ι H w (pX I ι id) (uO ι id) ((id,al ob k)::H) w where
 os:=rfl
 tape:=rfl
 output:=rfl
 size:=aCl _
 froz:=fun _ _ _=>rfl
 imm:=fun _ h=>.inl h
 immNew:=fun b c=>by
  rcases c with c|⟨a,c⟩
  ·simp_all
  exact .inr (.inl ⟨id,ob,a,g,c⟩)
 own:=fun b c=>by
  obtain ⟨j,o,a,d,f⟩:=c;by_cases e:j=id
  ·rw[uO,aCe e]at f;cases f
  rw[uO,aCd e]at f;rw[get_cons_other _ _ e]at d;exact .inl ⟨j,o,a,d,f⟩
 keep:=fun _ _ _=>rfl
 objs:=fun j o d=>by
  by_cases e:j=id
  ·subst e;rw[g]at d;cases d;exact⟨al _ k,get_cons_same _ _ _,Nat.le_of_lt i,fun h=>absurd h (by simp[al];omega)⟩
  exact⟨o,by rw[get_cons_other _ _ e];exact d,aCl _,fun _=>⟨aCd e,rfl,fun _=>aCl _⟩⟩
theorem Rel.deadK{I}(g:Rel I ι H w)(s:H.get id=some ob)(D:ob.g<k)(q:0<ob.sz):Rel (pX I ι id) (uO ι id) ((id,al ob k)::H) w:=by
 have t:=Step.deadK (w:=w) (I:=I) (ι:=ι) s D;refine⟨fun b d=>?_,fun j o f=>?_,fun j y o z b c B f n p i=>?_,g.glob.mono (fun _ _=>rfl) (fun _ h=>.inl h)⟩
 ·rcases d with d|⟨l,d⟩
  ·exact g.imm b d
  exact g.lt ⟨id,ob,l,s,d⟩
 ·by_cases e:j=id
  ·subst e;rw[get_cons_same]at f;cases f;exact .inl ⟨q,by simp[al],.inr ⟨aCe rfl,rfl⟩⟩
  rw[get_cons_other _ _ e]at f;refine(g.obj j o f).keep (aCd e) (fun b l C _=>⟨rfl,fun h=>?_⟩) (fun r _ a _ v A=>A.mono g t);rintro(d|⟨m,d⟩)
  ·grind
  exact e (g.inj j id o ob b l m f s C d)
 have x:j≠id:=fun e=>by rw[uO,aCe e]at p;cases p
 have u:y≠id:=fun e=>by rw[uO,aCe e]at i;grind
 rw[uO,aCd x]at p;rw[uO,aCd u]at i;rw[get_cons_other _ _ x]at f;rw[get_cons_other _ _ u]at n;exact g.inj j y o z b c B f n p i
theorem Fin.deadO{G0 H}{r}(b:H.get id=some ob)(c:ob.g<k)(a:0<ob.sz)(h:ob.sz=sz)(f:ob.ty=ty):Fin G0 H r ((id,⟨k,sz,ty,[]⟩)::H) r:=by intro G hG I ι w v d e g;subst h f;exact⟨_,_,d.deadK b c a,e.trans (Step.deadK b c),g.mono d (Step.deadK b c)⟩
theorem Fin.bump{G0 H}{rows}(c:H.get id=some ob)(y:ob.g=g)(u:g<k)(l:ob.sz=sz)(s:ob.ty=ty)(x:ob.rows=rows):Fin G0 H (.osl id g off n) ((id,⟨k,sz,ty,rows⟩)::H) (.osl id k off n):=by
 intro G hG I m w v t h f;subst y l s x;obtain ⟨p,o⟩:=Rel.tick (ob':=⟨k,ob.sz,ob.ty,ob.rows⟩) t c u rfl rfl rfl (get_cons_same _ _ _) (fun j r=>get_cons_other _ _ r);refine⟨I,m,p,h.trans o,?_⟩;obtain ⟨i,d⟩:=kB f c rfl;have q:=pA f c rfl;have a:v.oneCell'=true:=by
  rcases d with⟨b,cap,oo,_,e,_⟩|⟨_,e,_⟩<;>subst e<;>rfl
 exact .osl _ (get_cons_same _ _ _) (aCl _) a fun _=>⟨q,i,d⟩
end
section
section
variable{P:Program}{G0:aG}{N:Nat}{Q:Exit->dC->aG->Prop}{E:dC}{code:Code}
theorem cf{t id sz}{ty}(r:E.get t=some (.pv .nils))(i:H.get id=none)(hsz:Nat.blt 0 sz=true)(h:gC P G0 N code Q ((t,.osc id 0 0 0 0)::E) ((id,⟨0,sz,ty,[]⟩)::H)):gC P G0 N code Q E H:=by
 intro G o a w d;obtain ⟨I,ι,l,j,n⟩:=d.rel;obtain ⟨v,s,f⟩:=n t _ r;have m:0<sz:=by simp_all
 obtain ⟨p,k⟩:=Rel.adopt l i m;have g:v=.slice none 0 0:=by
  have:=f.pv_inv;cases this;rfl
 subst g;refine h G o a w ⟨d.defers,d.size,I,_,p,j.trans k,fun u x b=>?_⟩;by_cases e:t=u
 ·subst e;rw[dC.get_cons_same]at b;cases b;exact⟨_,s,.osc _ (get_cons_same _ _ _) (aCl _) rfl fun _=>⟨m,aCl _,.inr ⟨by simp,rfl,rfl,rfl,rfl⟩⟩⟩
 rw[dC.get_cons_other _ _ e]at b;obtain ⟨c,q,y⟩:=n u x b;exact⟨c,q,y.mono l k⟩
end
section
variable{P:Program}{N:Nat}{o:Oper}{E:dC}{T:TypeId}{x y:Operand}{Q:AV->aG->Prop}
theorem WM{F}{f y}{e}{v}(p:o.op=.call {callee:=.value f,args:=#[.const (.slice none 0 0),y],argTypes:=e})(m:aO E f=some (.pv (.fn F)))
  (l:∀(args) (w),(callFunc F args).run P w=.ok (.enter F args) w) (n:aO E y=some v) (h:aW P F [.pv .nils,v] H Q):dp P N o E H Q:=by
 intro a w I ι _ _ k j K QQ hk;have g:=(aI j m).fn_inv;unfold Oper.wpW execOp;simp[p,resolve,g,Deferred.ofValue,Sem.run_bind,Sem.run_pure,Result.andThen_ok,invoke,l,Oper.uponW_enter];refine(h I _ w _ k (rfl) (fun i u b d c=>?_)).mono ?_
 ·match i with
  |0=>simp[Act.eval]at d c;subst d c;exact .pv .nils
  |1=>simp at d c;subst d c;exact aI j n
  |i+2=>simp at c
 grind
end
theorem Rel.cut(g:Rel I ι H w)(y:H.get id=some ob)(hg:ob.g<k)(N:0<ob.sz)
  (R:H'.get id=some ⟨k,ob.sz,ob.ty,ob.rows.take n⟩) (F:∀j,j≠id->H'.get j=H.get j):Rel I ι H' w/\Step I ι H w I ι H' w:=by
 have f:Step I ι H w I ι H' w:=by
  refine⟨rfl,rfl,rfl,aCl _,fun a _ _=>rfl,fun _ h=>h,fun _ h=>.inl h,?_,fun _ _ _=>rfl,?_⟩
  ·rintro x ⟨j,o,c,d,s⟩;by_cases e:j=id
   ·subst e;exact .inl ⟨j,ob,c,y,s⟩
   exact .inl ⟨j,o,c,(F j e).symm.trans d,s⟩
  grind
 refine⟨⟨g.imm,?_,?_,f.glob g⟩,f⟩
 ·intro j o d;by_cases e:j=id
  ·subst e;rw[R]at d;cases d;obtain ⟨G,K,⟨b,E,O,z,L,V,Y,e5,C,S⟩|⟨z,L⟩⟩:=(g.obj j ob y).cells N
   ·refine .inl ⟨G,fun r l=>K r (List.mem_of_mem_take l),.inl ⟨b,E,O,z,L,V,Y,?_,C,fun i r D q a t=>?_⟩⟩
    ·grind
    simp only[List.getElem?_take]at D
    split at D
    ·obtain ⟨v,M,Q,W⟩:=S i r D q a t;exact⟨v,M,Q,W.mono g f⟩
    grind
   exact .inl ⟨G,fun r l=>K r (List.mem_of_mem_take l),.inr ⟨z,by simp_all⟩⟩
  rw[F j e]at d;exact(g.obj j o d).keep rfl (fun x c _ _=>⟨rfl,fun h=>h⟩) (fun r _ a _ v X=>X.mono g f)
 intro j J o U x c P d A s u;have m:∀j o,H'.get j=some o->∃o,H.get j=some o:=by
  intro j o d;by_cases e:j=id
  ·exact⟨ob,e▸y⟩
  exact⟨o,(F j e).symm.trans d⟩
 obtain ⟨q,t⟩:=m j o d;obtain ⟨T,B⟩:=m J U A;exact g.inj j J q T x c P t B s u
theorem Fin.trunc{G0 H}{rows}(c:H.get id=some ob)(t:ob.g=g)(o:g<k)(s:ob.sz=sz)(q:ob.ty=ty)(r:ob.rows.take n=rows):Fin G0 H (.osl id g 0 n) ((id,⟨k,sz,ty,rows⟩)::H) (.osl id k 0 n):=by
 intro G hG I u w v m x f;subst t s q r;have h:=pA f c rfl;obtain ⟨q1,d⟩:=kB f c rfl;obtain ⟨i,l⟩:=Rel.cut m c o h (get_cons_same _ _ _) (fun j p=>get_cons_other _ _ p);refine⟨I,u,i,x.trans l,?_⟩;have a:v.oneCell'=true:=by
  rcases d with⟨b,cap,oo,_,e,_⟩|⟨_,e,_⟩<;>subst e<;>rfl
 exact .osl _ (get_cons_same _ _ _) (aCl _) a fun _=>⟨h,by simp_all,d⟩
theorem aW.congrH{P}{f}{args}{H H1 H2}{b}(h:aW P f args H (fun r H'=>r=b/\H'=H1))(n:∀j,H2.get j=H1.get j):aW P f args H (fun r H'=>r=b/\H'=H2):=by intro I ι w vs l k p;refine(h I _ w _ l k p).mono ?_;rintro e w' ⟨r,H',g,a,v,rfl,⟨rfl,rfl⟩,o,d,i⟩;obtain ⟨m,c⟩:=d.congr n;exact⟨r,H2,g,a,v,rfl,⟨rfl,rfl⟩,o.mono d c,m,i.trans c⟩
theorem aW.frameS{P}{f}{args}{H0 H}{c}(h:aW P f args H0 (fun r H'=>r=c/\H'=H0))(b:Sub H0 H)(g:eE H0)(i:∀a∈args,Clo H0 a):aW P f args H (fun r H'=>r=c/\H'=H):=by
 refine(aW.frame h b g i (fun id d=>.inl d)).congrH fun j=>?_;rw[gJ];cases e:H0.get j with
 |some o=>exact b j o e
 |none=>rfl
theorem Sub.of2{i j}{a b}{H}(h1:H.get i=some a)(h2:H.get j=some b):Sub [(i,a),(j,b)] H:=by
 intro id o c;simp[aG.get]at c;cases e1:Nat.beq i id with
 |true =>
  simp_all
 | false =>
  cases e2:Nat.beq j id with
  |true =>
   simp_all
  |false=>simp_all
end
section
theorem PR{w}{I}{ι}{H}{v}(h:VRel w I ι H v (.pv .nils)):v=.slice none 0 0:=by have:=h.pv_inv;cases this;rfl
section
variable{P:Program}{N:Nat}{o:Oper}{E:dC}{S T t t' e:TypeId}{x y:Operand}
theorem IE(f:o.op=.call {callee:=.builtin .cap,args:=#[x],argTypes:=#[T]})(d:P.underlying T=some (.slice e))(h:aO E x=some (.pv .nils)):cK P N o E H (.pv (.int .i64 0)) H :=.of_run fun a w I ι _ b=>⟨.int _ 0,by
  have c:=PR (aI b h);simp[execOp,f,resolve,invoke,builtin,c,Builtin.cap_,run_underlying d,goInt],.pv (.int _ _)⟩
theorem IC(f:o.op=.call {callee:=.builtin .len,args:=#[x],argTypes:=#[T]})(d:P.underlying T=some (.slice e))(h:aO E x=some (.pv .nils)):cK P N o E H (.pv (.int .i64 0)) H :=.of_run fun a w I ι _ b=>⟨.int _ 0,by
  have c:=PR (aI b h);simp[execOp,f,resolve,invoke,builtin,c,Builtin.len_,run_underlying d,goInt],.pv (.int _ _)⟩
theorem YP{sz}(c:aO E y=some (.pv .nils)):Qn E H sz y 0 []:=fun a w I ι hr b=>.inr ⟨PR (aI b c),rfl,rfl⟩
theorem YH{lo hi}{rows'}(D:o.op=.slice T x lo hi none)(hS:fC P T e sz)(M:aO E x=some (.osl id g 0 len))
  (i:H.get id=some ob) (z:ob.g=g) (q:ob.sz=sz) (l:bnd E lo 0=some ((0:Nat):Int)) (u:bnd E hi len=some (h:Int)) (Y:h<=len) (V:g+1=k) (d:ob.rows.take h=rows'):cK P N o E H (.osl id k 0 h) ((id,⟨k,sz,ob.ty,rows'⟩)::H):=by
 subst V d q;intro a w I G O m X W K Q s;refine FV D hS.1 hS.2.1 M i z rfl l u (aCw _) Y rfl (Nat.sub_zero h) a w I G O m X W K Q ?_;rintro c U L ι' r H' ⟨rfl,rfl⟩ B v p;have C:=pA B i z;obtain ⟨q1,A⟩:=kB B i z;obtain ⟨F,R⟩:=Rel.cut (k:=g+1) v i (by omega) C (get_cons_same _ _ _) (fun j J=>get_cons_other _ _ J);have f:c.oneCell'=true:=by
  rcases A with⟨b,cap,oo,_,e,_⟩|⟨_,e,_⟩<;>subst e<;>rfl
 exact s c U L _ _ _ ⟨rfl,rfl⟩ (.osl _ (get_cons_same _ _ _) (aCl _) f fun _=>⟨C,by simp_all,A⟩) F (p.trans R)
theorem QK:∀(n t) (acc),(∀v∈acc.toList,v.oneCell'=true)->∀v∈(Extern.BytealgMakeNoZero.digits n t acc).toList,v.oneCell'=true
 |0,_,_,h=>h
 |n+1,t,acc,h=>by
  refine QK n _ _ fun v a=>?_;rw[Array.toList_push,List.mem_append,aCi]at a;rcases a with a|rfl
  ·simp_all
  rfl
theorem fa(w:World)(ps)(t e)(l:P.underlying t=some (.slice e))(n:Nat)(hn:n<=281474976710656):
  ∃cs,(Extern.BytealgMakeNoZero.makeNoZero ps #[t] #[.int .i64 n]).run P w=.ok (.slice (some ⟨w.heap.size,0,none⟩) n cs.size) (w.drew.drew.alloc (.cells cs e))/\n<=cs.size/\(n<=maxLen->cs.size<=maxLen)/\∀v∈cs.toList,v.oneCell'=true:=by
 have f:Extern.BytealgMakeNoZero.makeNoZero ps #[t] #[.int .i64 n] =
   (do
    let .slice d <-underlying t|stuck _
    if n<0||(n:Int) > 2 ^ 48 then runtimePanic _
    let c <-choose _
    askRoom c
    let bytes <-choose _
    let a <-newRow d (Extern.BytealgMakeNoZero.digits c bytes #[])
    pure (.slice (some a) _ c)):=rfl
 refine⟨Extern.BytealgMakeNoZero.digits (grownCap w n 0 e) ((Question.extern "internal/bytealg.MakeNoZero.bytes" 0).cut (w.tape (w.drawn+1) (.extern "internal/bytealg.MakeNoZero.bytes" 0))) #[],?_,?_,?_,?_⟩
 ·rw[f];have k:¬ (n:Int)<0:=by omega
  have j:¬ (281474976710656:Int)<(n:Int):=by omega
  simp[run_underlying l,k,j,Question.forced,newRow,Lib.size_digits,grownCap]
 ·rw[Lib.size_digits]
  simpa using grownCap_ge w n 0 e
 ·intro i;rw[Lib.size_digits]
  simpa using grownCap_le_maxLen w n 0 e i
 exact QK _ _ _ (by simp)
theorem gf{f:Operand}{u:Array TypeId}{F:FuncId}{q:Func}{ps:Array TypeId}{m:Int}(V:o.op=.call {callee:=.value f,args:=#[x],argTypes:=u})(Z:aO E f=some (.pv (.fn F)))(W:P.funcs[F]?=some q)(h:(q.name == "runtime.NumGoroutine")=false)
  (D:q.body.isNone=true) (O:Extern.findNext q=none) (he:Extern.find q=some (Extern.BytealgMakeNoZero.makeNoZero ps #[t])) (R:P.underlying t=some (.slice e)) (Y:aO E x=some (.pv (.int .i64 m))) (G:m=(n:Int)) (A:n<=140737488355328) (hid:H.get id=none) :
  cK P N o E H (.osl id 0 0 n) ((id,⟨0,1,e,List.replicate n [.any]⟩)::H):=by
 subst G;intro a w I ι _ _ hr C K Q X;have z:=(aI C Z).fn_inv;have hxv:=(aI C Y).int_inv;obtain ⟨d,e1,e2,e3,L⟩:=fa (P:=P) w ps t e R n (by omega);have B:=Rel.drawn (w':=w.drew.drew) hr rfl rfl rfl rfl;obtain ⟨U,d2⟩:=B;obtain ⟨k1,J⟩:=Rel.place (H':=(id,⟨0,1,e,List.replicate n [.any]⟩)::H) (id:=id) (cap:=d.size) (ob':=⟨0,1,e,List.replicate n [.any]⟩) (cs':=d) (w':=w.drew.drew.alloc (.cells d e)) U rfl rfl rfl rfl
  (fun o' ho'=>by simp_all) Nat.zero_lt_one (by simp) (by simp_all) (e3 (Nat.le_trans A (by decide))) (fun r hr'=>by simp_all) (fun i r v k b s=>by
   rw[List.getElem?_replicate]at v
   split at v
   ·cases v;cases k with
    |zero =>
     cases s;have p:i*1+0<d.size:=by omega
     exact⟨d[i*1+0],Array.getElem?_eq_getElem p,L _ (Array.getElem_mem_toList p),.any _⟩
    |succ k=>grind
   grind) (get_cons_same _ _ _) (fun j M=>get_cons_other _ _ M)
 unfold Oper.wpW;have l:(execOp a.eval o).run P w=.ok (.value (.slice (some ⟨w.heap.size,0,none⟩) n d.size)) (w.drew.drew.alloc (.cells d e)):=by
  unfold execOp;simp only[V,resolve,z,Deferred.ofValue,Sem.run_bind,Sem.run_pure,Result.andThen_ok,invoke,Array.empty_append,Array.append_empty,run_callFunc_extern W h D O he]
  simp_all
 rw[l];exact X _ _ I _ _ _ ⟨rfl,rfl⟩ (.osl ⟨0,1,e,List.replicate n [.any]⟩ (get_cons_same _ _ _) (aCl _) rfl fun _=>⟨Nat.zero_lt_one,by simp,.inl ⟨w.heap.size,d.size,0,by simp,by simp,fun _=>by simp⟩⟩) k1 (d2.trans J)
theorem xa{lo hi X:Operand}{rows':List (List PV)}(ho:o.op=.slice T x (some lo) (some hi) (some X))(hS:fC P T e sz)(hx:aO E x=some (.pv (.sl rows)))(hrows:∀r∈rows,r.length=sz)
  (M:aO E lo=some (.pv (.int .i64 l))) (K:aO E hi=some (.pv (.int .i64 h))) (Q:aO E X=some (.pv (.int .i64 h))) (W:l<=h) (h2:h<=rows.length) (v:rows≠[]) (j:(rows.take h).drop l=rows'):cK P N o E H (.pv (.sl rows')) H:=by
 subst j;exact .of_run fun a w I ι _ D=>by
  have V:=(aI D hx).pv_inv;have e0:=(aI D M).int_inv;have Y:=(aI D K).int_inv;have e2:=(aI D Q).int_inv;generalize hc:a.eval x=c at V;have hT:=hS.1;have hs:=hS.2.1;have G:P.elem T=e:=by simp[Program.elem,hT]
  have B:P.underlying T=some (.slice (P.elem T)):=by simp_all
  cases V with
  |nilsl=>exact absurd rfl v
  |empsl a0=>exact absurd rfl v
  | sl b A s U _ cs hI J z hcap O F =>
   have C:U=sz:=by
    obtain ⟨r,rs,e⟩:=List.exists_cons_of_ne_nil v
    simp_all
   subst C;have Z:(Instr.sliceBounds true rows.length s (some (.int .i64 l)) (some (.int .i64 h)) (some (.int .i64 h))).run P w=.ok (l,h,h) w:=by
    have u:∀(n y:Nat) (c:BoundsCode),n<=y->(Instr.sliceBound (.int .i64 n) y c).run P w=.ok n w:=fun n y c hn=>by
     have:=run_sliceBound (P:=P) w .i64 n y c (by omega) (by omega)
     simpa using this
    simp[Instr.sliceBounds,u _ _ _ W,u _ _ _ (aCl h),u h s _ (by omega)]
   have htl:(rows.take h).length=h:=by simp_all
   have m:∀(i:Nat) (r:List PV),(rows.take h)[i]?=some r->rows[i]?=some r:=fun i r j=>by
    grind
   have q:=PRep.cut (w:=w) (I:=I) (b:=b) (off:=A) (cap:=h) (l:=l) (h:=h) (rows:=rows.take h) (cs:=cs) hI J (fun r j=>z r (List.mem_of_mem_take j)) (by omega)
    (fun i r j k p R=>O i r (m i r j) k p R) (fun i r j k p R=>F i r (m i r j) k p R) W (by omega)
   rw[List.take_take,Nat.min_self]at q;refine⟨_,?_,.pv q⟩;simp only[execOp,ho,hc];have:=run_slice_any (P:=P) w T (some ⟨b,A,none⟩) rows.length s B (some (.int .i64 l)) (some (.int .i64 h)) (some (.int .i64 h));simp only[Option.map_some,run_sliceAt_slice w T _ _ _ _ B,e0,Y,e2,Sem.run_bind,this,Z,G,hs,sliced,Result.andThen_ok,Sem.run_pure];by_cases ec:h=l<;>simp[ec]
end
end
end Go.Abs
namespace Go.Proofs.YtmdicgjnmfolfaaGreatDoor
open Go.Proofs.Tryz
open Go.Abs
variable{K:aG}{α:Type}{i:Nat}
def cd(u:Bool):AV:=if u then .ref 2001 0 0 0 else .pv .nilp
def C3(buf:AV)(u:Bool):Ob:=⟨0,2,137,[[cd u,buf]]⟩
def yA(g:Nat)(l:List UInt8)(u:Bool):aG:=[(2001,C3 (.osl 2002 g 0 l.length) u),(2002,⟨g,1,5,fE l⟩)]
theorem rC(l):(fE l).length=l.length:=by simp[fE]
theorem eP(H)(l):∀r∈fE l,∀a∈r,Clo H a:=by intro r d a c;obtain ⟨b,_,rfl⟩:=List.mem_map.1 d;rw[aCi]at c;subst c;simp
theorem tO(l m):fE l++fE m=fE (l++m):=by simp[fE]
theorem gM{H}{g n}{u}(e:(H.get 2001).isSome=true)(f:(H.get 2002).isSome=true):∀r∈(C3 (.osl 2002 g 0 n) u).rows,∀a∈r,Clo H a:=by
 intro r c a d;simp[C3,aCi]at c;subst c;simp[aCr,aCv,or_false]at d;rcases d with rfl|rfl
 ·cases u<;>simp[cd,e]
 simp[f]
theorem D4(b:AV)(u:Bool)(K:aG):aW Tryz.prog 147 [.ref 2001 0 0 0] ((2001,C3 b u)::K) (fun r H'=>r=.tup []/\H'=(2001,C3 b true)::K):=by
 cases u with
 |false =>
  refine Bd vl rfl di<|Sd aC<|Dd vS<|Dd (aV yQ)<|Dd (bD CZ)<|Zd (by exact LP rfl gQ rfl rfl) ?_;refine Cn ?_ ?_<;>intro c
  ·refine Rd aC<|Dd aC<|Dd (by exact FU (n:=1) rfl gQ G6 (by rfl) rfl rfl rfl (by simp[C3]))<|Dd (by exact NI rfl rfl func182 rfl rfl rfl rfl rfl (aw (.ref 2001 0 0 0)))<|Dd (by exact MM (n:=1) rfl G6 gQ (by rfl) rfl rfl rfl (by simp[C3]) rfl rfl)<|Dd vS<|Dd (aV yQ)<|Uu (ku Vu)<|Zz ?_;exact uP (.inl rfl) rfl (Fin.get' (H':=(2001,C3 b true)::K) (fun j=>yP 2001 (C3 b true) (C3 b false) K j)) ⟨rfl,rfl⟩
  cases c
 |true =>
  refine Bd vl rfl di<|Sd aC<|Dd vS<|Dd (aV yQ)<|Dd (bD CZ)<|Zd (by exact LO rfl gQ rfl rfl rfl rfl) ?_;refine Cn ?_ ?_<;>intro c
  ·cases c
  refine Sd aC<|Dd vS<|Dd (aV yQ)<|Dd (bD CZ)<|Dd aC<|Zd (by exact IA (n:=1) rfl gQ (by rfl) rfl rfl rfl rfl) ?_;refine Cn ?_ ?_<;>intro d
  ·cases d
  refine aA ?_;exact uP (.inl rfl) rfl Fin.refl ⟨rfl,rfl⟩
theorem IT{i j}{a b a' c}(h:i≠j)(k):aG.get ((i,a)::(j,b)::K) k=aG.get ((i,a)::(j,b)::(i,a')::(j,c)::K) k:=by
 simp[aG.get]
 grind
theorem MY:∀i,Tryz.prog.info? 5=some i->i.zero=some (.int .u8 0):=fun i b=>by
 have h:(Tryz.prog.info? 5).map (·.zero)=some _:=rfl;rw[b]at h;exact Option.some.inj h
theorem pg(g)(l m){n}(h:m.length=n):yA (g+1) (l++m) true=[(2001,C3 (.osl 2002 (g+1) 0 (l.length+n)) true),(2002,⟨g+1,1,5,fE (l++m)⟩)]:=by subst h;simp[yA]
theorem jW(g:Nat)(l:List UInt8)(u:Bool)(c:UInt8)(hl:l.length<70368744177664):aW Tryz.prog 110 [.ref 2001 0 0 0,.pv (.int .u8 c.toNat)] (yA g l u) (fun r H'=>r=.pv KG/\H'=yA (g+1) (l++[c]) true):=by refine Bd func110 rfl ntmps110<|Sz aH<|Sd aC<|Zd (kc RL (D4 _ u _))<|Sd aC<|Dd aC<|Dd vS<|Dd (aV gV)<|Dd (bD dX)<|Dd aC<|Dd (by exact aN [[.int .u8 c.toNat]] rfl AA rfl rfl rfl rfl rfl (by simp_all))<|Dd (by exact cG (ps:=[[.int .u8 c.toNat]]) rfl AA Qe rfl rfl rfl rfl rfl (rC l) rfl (by simp_all) (m:=1) rfl (by omega) rfl (tO l [c]))<|Dd vS<|Dd (aV gV)<|Uu (ku pF)<|Zz<|Sz aH<|aB ?_;rw[pg g l [c] (n:=1) rfl];refine dA (.inr rfl) rfl (aJ rfl) (Fin.get' (fun j=>IT (by decide) j)) ?_;exact Qq
theorem jV(g:Nat)(l:List UInt8)(u:Bool)(s:ByteArray)(hl:l.length+s.size<70368744177664):aW Tryz.prog 109 [.ref 2001 0 0 0,sv s] (yA g l u) (fun r H'=>r=.tup [iv (s.size:Int),.pv KG]/\H'=yA (g+1) (l++s.data.toList) true):=by refine Bd func109 rfl ntmps109<|Sd aH<|Zd aH<|Sd aC<|Zd (kc RL (D4 _ u _))<|Sd aC<|Dd aC<|Dd vS<|Dd (aV gV)<|Dd (bD dX)<|Dd aC<|Dd (by exact vM rfl AA underlying9 Qe MY rfl rfl rfl rfl rfl (rC l) rfl (by omega) rfl (tO l s.data.toList))<|Dd vS<|Dd (aV gV)<|Uu (ku pF)<|Zz<|Sd aC<|Dd (gF underlying9)<|Dd aH<|Zd aH<|aB ?_;rw[pg g l s.data.toList (n:=s.size) rfl];refine iN (.inr rfl) rfl (aJ rfl) (aJ rfl) (Fin.get' (fun j=>IT (by decide) j)) ?_;exact Qq
def uy(g:Nat)(l:List UInt8)(u:Bool):aG:=[(2002,⟨g+1,1,5,[]⟩),(2001,C3 (.osl 2002 g 0 l.length) u)]
theorem NS{i j}{a b a'}(h:i≠j)(k):aG.get ((i,a)::(j,b)::K) k=aG.get ((i,a)::(j,b)::(i,a')::K) k:=by
 simp[aG.get]
 grind
theorem S0(g:Nat)(l:List UInt8)(u:Bool)(hl:l.length<70368744177664):aW Tryz.prog 111 [.ref 2001 0 0 0] (yA g l u) (fun r H'=>r=sv ⟨l.toArray⟩/\H'=uy g l u):=by
 by_cases e:l=[]
 ·subst e;refine Bd vn rfl dk<|Sz aH<|Sq<|aL follows<|Cq aC<|Cq vS<|Cq (aV gV)<|Cq (bD dX)<|Cq (by exact DM rfl xT rfl rfl rfl)<|Cq aC<|Cq vS<|Cq (aV gV)<|Cq (bD dX)<|Cq (by exact dU rfl dG rfl rfl rfl)<|Cq (by exact yK rfl rfl rfl)<|Cq aH<|bF<|Kr<|aB ?_;refine dA (H':=(uy g [] u)) (.inr rfl) rfl (aJ rfl) (Fin.trans (Fin.deadO (id:=2002) (k:=g+1) (ob:=⟨g,1,5,fE []⟩) rfl (Nat.lt_succ_self g) Nat.zero_lt_one rfl rfl) (Fin.get' (fun j=>NS (by decide) j))) ?_;exact Qq
 have c:0<l.length:=List.length_pos_iff.2 e;refine Bd vn rfl dk<|Sz aH<|Sq<|aL follows<|Cr [2001] (fun _ _=>aC)<|Cr [2001] (fun d b=>by exact fY rfl rfl ((b _ rfl).trans rfl) rfl)<|Cr [2001] (fun _ h=>fh gV h)<|Cr [2001] (fun _ h=>lh dX h)<|Cr [2002] (fun d b=>by exact FW rfl rfl ((b _ rfl).trans rfl) rfl c)<|Cr [2001] (fun _ _=>aC)<|Cr [2001] (fun d b=>by exact fY rfl rfl ((b _ rfl).trans rfl) rfl)<|Cr [2001] (fun _ h=>fh gV h)<|Cr [2001] (fun _ h=>lh dX h)<|Cr [2002] (fun d b=>by exact dU rfl dG rfl ((b _ rfl).trans rfl) rfl)<|Cp [2001,2002] (fun d b=>by exact AH (l:=l) rfl xT (by rfl) rfl rfl ((b _ rfl).trans rfl) rfl rfl rfl rfl rfl c (by omega) rfl)<|Cr [] (fun _ _=>aH)<|bF<|Kr<|aB ?_;refine dA (H':=(uy g l u)) (.inr rfl) rfl (aJ rfl) (Fin.get' (fun j=>NS (by decide) j)) ?_;exact Qq
def Gb:aG:=[(2001,C3 (.pv .nils) false)]
theorem Uo(m n:Nat)(hn:m=n)(hl:n<70368744177664):aW Tryz.prog 239 [.ref 2001 0 0 0,iv (n:Int)] [(2001,C3 (.pv .nils) true)] (fun r H'=>r=.tup []/\H'=yA 1 [] true):=by refine Bd func239 rfl ntmps239<|Sq<|aL follows<|Cr [2001] (fun _ _=>aC)<|Cr [2001] (fun c b=>by exact fY rfl rfl ((b _ rfl).trans rfl) rfl)<|Cr [2001] (fun _ h=>fh gV h)<|Cr [2001] (fun _ h=>lh dX h)<|Cr [] (fun c b=>by exact IE rfl dG rfl)<|Cr [] (fun c b=>by exact iY rfl rfl rfl (by exact lI (by omega) (by omega)))<|Cr [] (fun _ _=>aC)<|Cr [] (fun c b=>by exact eA rfl rfl rfl (show IntKind.i64.wrap (0+(n:Int))=(n:Int)by rw[IntKind.wrap_i64];omega))<|Cp [2002] (fun c b=>by exact gf (id:=2002) (n:=n) rfl rfl func266 (by decide) rfl rfl rfl dG rfl rfl (by omega) ((b _ rfl).trans rfl))<|Cr [2001] (fun _ _=>aC)<|Cr [2001] (fun c b=>by exact fY rfl rfl ((b _ rfl).trans rfl) rfl)<|Cr [2001] (fun _ h=>fh gV h)<|Cr [2001] (fun _ h=>lh dX h) ?_;refine Cr [] (fun c b=>by exact IC rfl dG rfl)<|Cp [2002] (fun c b=>by exact YH (h:=0) (k:=1) (rows':=[]) rfl AA rfl ((b _ rfl).trans rfl) rfl rfl rfl rfl (aCw _) rfl rfl)<|Cr [] (fun _ _=>aH)<|bF<|Kr<|Sd aC<|Dd aC<|Dd vS<|Dd (aV gV)<|Dd (bD dX)<|Zd (by exact Ra (rows':=[]) rfl AA (jc rfl rfl rfl) rfl rfl rfl (aCw _) (YP rfl) (by simp) rfl rfl rfl)<|Rd aC<|Dd aC<|Dd vS<|Dd (aV gV)<|Uu (ku pF)<|Zz ?_;exact uP (H':=yA 1 [] true) (.inl rfl) rfl (Fin.wk (by(simp;done)) (Hc (gM rfl rfl)<|Hc (eP _ _)<|trivial) ⟨rfl,trivial⟩) ⟨rfl,rfl⟩
theorem Mp(n:Nat)(h0:0<n)(d:n<70368744177664):aW Tryz.prog 198 [.ref 2001 0 0 0,iv (n:Int)] Gb (fun r H'=>r=.tup []/\H'=yA 1 [] true):=by
 refine Bd func198 rfl ntmps198<|Sd aC<|Zd (kc RL (D4 _ false _))<|Sq<|Sd aC<|Zd cJ ?_;refine Cn ?_ ?_<;>intro c
 ·exact absurd (aCb c) (by omega)
 refine aA<|Sq<|aL follows<|Cq aC<|Cq vS<|Cq (aV gV)<|Cq (bD dX)<|Cq (by exact IE rfl dG rfl)<|Cq aC<|Cq vS<|Cq (aV gV)<|Cq (bD dX)<|Cq (by exact IC rfl dG rfl)<|Cq (by exact dB rfl rfl rfl (by exact lI (by omega) (by omega)))<|Cq aC<|Cq cJ<|bF<|Kr ?_;refine Cn ?_ ?_<;>intro b
 ·refine Rd aC<|Dd aC<|Zd (kc call239 (Uo n n rfl d)) ?_;exact uP (H':=yA 1 [] true) (.inl rfl) rfl (Fin.wk (by(simp;done)) (Hc (gM rfl rfl)<|Hc (eP _ _)<|trivial) ⟨rfl,trivial⟩) ⟨rfl,rfl⟩
 exact absurd (aCc b) (by omega)
def oE(s:ByteArray)(k:Nat):UInt8:=(s.data.toList[k]?).getD 0
theorem sO(s)(k):bH s k=((oE s k).toNat):=rfl
def pN(b:UInt8):List UInt8:=if b=10 then[92,110]else if b=34\/b=92 then[92,b]else[b]
def cX(l:List UInt8):List UInt8:=34::(l.flatMap pN++[34])
theorem My(b):(pN b).length<=2:=by
 unfold pN
 grind
theorem az(l:List _):(l.flatMap pN).length<=2*l.length:=by
 induction l with
 |nil=>simp_all
 |cons b l ih =>
  rw[List.flatMap_cons,aCg,aCh];have:=My b;omega
theorem xv{s}{k}(h:k<s.size):s.data.toList.take (k+1)=s.data.toList.take k++[oE s k]:=by
 have a:k<s.data.toList.length:=by simp_all
 rw[List.take_add_one,oE,aCk a];rfl
theorem N8{b}{n:Nat}(hn:n<256):decide ((b.toNat:Int)=n)=decide (b=UInt8.ofNat n):=by
 rw[Bool.eq_iff_iff,aCm,aCm];constructor
 ·intro h;apply UInt8.toNat.inj;rw[UInt8.toNat_ofNat'];omega
 intro h;rw[h,UInt8.toNat_ofNat'];omega
theorem cQ.bld0{E E'}(a:Wo E [(2002,⟨0,1,5,[]⟩),(2001,C3 (.osl 2002 0 0 0) false)] 2002 E'):cQ [] E Gb E' (yA 0 [] false):=by refine(cQ.nz (G0:=[]) _ 1 5 rfl rfl a ⟨⟨C3 (.pv _) _,rfl,rfl,rfl,rfl,.inr ⟨_,_,rfl,rfl,⟨.same (by simp[cd]),⟨.own,trivial⟩⟩⟩⟩,trivial⟩ trivial).trans ?_;exact cQ.get (fun _=>rfl) (fun j=>pM (by simp) j)
def kR(s:ByteArray)(k:Nat):List UInt8:=34::(s.data.toList.take k).flatMap pN
theorem ZF{s}{k}(hs:s.size<17592186044416):(kR s k).length<70368744170000:=by have:=az (s.data.toList.take k);rw[aCt]at this;have h2:s.data.toList.length=s.size:=rfl;rw[kR,aCh];omega
theorem TH{s}{k}(h:k<s.size):kR s (k+1)=kR s k++pN (oE s k):=by rw[kR,kR,xv h];simp
theorem mz(s:ByteArray)(H:aG)(v:s.size<17592186044416):RC 203 [sv s] (sv ⟨(cX s.data.toList).toArray⟩) H:=by
 refine Pu ?_;have hsl:s.data.toList.length=s.size:=by simp
 refine Bd func203 rfl ntmps203<|Sz aH<|Sz (kl 2001 JR)<|Sq ?_;refine gC.ent (E':=[(0,sv s),(3,.ref 2001 0 0 0)]) (H':=yA 0 [] false) (cQ.bld0 ⟨⟨_,rfl,.same (by simp)⟩,⟨_,rfl,.same (by simp;rfl)⟩,trivial⟩) ?_;refine Rg<|Zd (by exact bL rfl rfl mJ rfl (jW 0 [] false 34 (by decide)))<|Sq<|Sd aC<|Dd (gF underlying9)<|Zd aC<|aE ?_;refine fZ (fun(k g:Nat)=>([(0,sv s),(3,.ref 2001 0 0 0),(8,iv (s.size:Int)),(9,iv (k:Int))],yA g (kR s k) true)) (fun k g=>k<=s.size) (fun k g=>s.size - k) 0 1 (aCw _) ?_ ?_
 ·exact(cQ.wk (Eb<|Ea<|Eb<|Eb<|trivial) (Hc (gM rfl rfl)<|Hc (eP _ _)<|trivial) trivial)
 intro k g hk;have hL:=ZF (k:=k) v;refine Sz cJ<|Sq ?_;refine Cn ?_ ?_<;>intro p
 ·have q:k<s.size:=by have:=aCb p;omega
  have b:=TH q;refine aA<|Sq<|aE<|Sd aC<|Zd aH<|Sd aC<|Dd aC<|Dd (ky underlying9)<|Zd aH<|Sz aC<|aE<|Sd cF<|Da ?_;refine Cn ?_ ?_<;>intro n
  ·have l:oE s k=10:=by
    have h:=n;rw[sO,show (10:Int)=((10:Nat):Int)by rfl,N8 (by decide)]at h;exact aCb h
   have e:yA (g+1) (kR s (k+1)) true=yA (g+1) (kR s k++(⟨#[92,110]⟩:ByteArray).data.toList) true:=by rw[b,l];rfl
   refine Rg<|Zd (kc oD (jV g (kR s k) true ⟨#[92,110]⟩ (by show _+2<_;omega)))<|Rd iF<|Zd aC ?_;refine⟨k+1,g+1,by omega,by omega,?_⟩;show cQ _ _ _ _ (yA (g+1) (kR s (k+1)) true);rw[e];exact(cQ.wk (Eb<|Ea<|Eb<|Eb<|trivial) (Hc (gM rfl rfl)<|Hc (eP _ _)<|trivial) trivial)
  have j:¬ oE s k=10:=by
   have h:=n;rw[sO,show (10:Int)=((10:Nat):Int)by rfl,N8 (by decide)]at h;exact aCc h
  refine Sq<|Sd cF<|Da ?_;refine Cn ?_ ?_<;>intro d
  ·have l:oE s k=34:=by
    have h:=d;rw[sO,show (34:Int)=((34:Nat):Int)by rfl,N8 (by decide)]at h;exact aCb h
   have e:yA (g+1+1) (kR s (k+1)) true=yA (g+1+1) (kR s k++[92]++[oE s k]) true:=by rw[b,l];simp[pN]
   refine aA ?_;refine Cn ?_ ?_<;>intro u
   ·refine Sz (kc mJ (jW g (kR s k) true 92 (by omega)))<|Rd aC<|Zd (kc mJ (jW (g+1) (kR s k++[92]) true (oE s k) (by grind)))<|Rd iF<|Zd aC ?_;refine⟨k+1,g+1+1,by omega,by omega,?_⟩;show cQ _ _ _ _ (yA (g+1+1) (kR s (k+1)) true);rw[e];exact(cQ.wk (Eb<|Ea<|Eb<|Eb<|trivial) (Hc (gM rfl rfl)<|Hc (eP _ _)<|trivial) trivial)
   exact absurd (d.symm.trans u) (by decide)
  have m:¬ oE s k=34:=by
   have h:=d;rw[sO,show (34:Int)=((34:Nat):Int)by rfl,N8 (by decide)]at h;exact aCc h
  refine Rd cF<|Da ?_;refine Cn ?_ ?_<;>intro i
  ·have l:oE s k=92:=by
    have h:=i;rw[sO,show (92:Int)=((92:Nat):Int)by rfl,N8 (by decide)]at h;exact aCb h
   have e:yA (g+1+1) (kR s (k+1)) true=yA (g+1+1) (kR s k++[92]++[oE s k]) true:=by rw[b,l];simp[pN]
   refine Sz (kc mJ (jW g (kR s k) true 92 (by omega)))<|Rd aC<|Zd (kc mJ (jW (g+1) (kR s k++[92]) true (oE s k) (by grind)))<|Rd iF<|Zd aC ?_;refine⟨k+1,g+1+1,by omega,by omega,?_⟩;show cQ _ _ _ _ (yA (g+1+1) (kR s (k+1)) true);rw[e];exact(cQ.wk (Eb<|Ea<|Eb<|Eb<|trivial) (Hc (gM rfl rfl)<|Hc (eP _ _)<|trivial) trivial)
  have o:¬ oE s k=92:=by
   have h:=i;rw[sO,show (92:Int)=((92:Nat):Int)by rfl,N8 (by decide)]at h;exact aCc h
  have e:yA (g+1) (kR s (k+1)) true=yA (g+1) (kR s k++[oE s k]) true:=by rw[b,pN,aCd j,aCd (fun h=>h.elim m o)]
  refine Rd aC<|Zd (kc mJ (jW g (kR s k) true (oE s k) (by omega)))<|Rd iF<|Zd aC ?_;refine⟨k+1,g+1,by omega,by omega,?_⟩;show cQ _ _ _ _ (yA (g+1) (kR s (k+1)) true);rw[e];exact(cQ.wk (Eb<|Ea<|Eb<|Eb<|trivial) (Hc (gM rfl rfl)<|Hc (eP _ _)<|trivial) trivial)
 have t:k=s.size:=by have:=aCc p;omega
 refine aS<|Sz (kc mJ (jW g (kR s k) true 34 (by omega)))<|Sd (kc oC (S0 (g+1) (kR s k++[34]) true (by grind)))<|Zd aH<|aB ?_;have f:(⟨(kR s k++[34]).toArray⟩:ByteArray)=⟨(cX s.data.toList).toArray⟩:=by
  rw[kR,cX,t,List.take_of_length_le (by omega)];rfl
 rw[<-f];exact Rt Qq
def bU(sep:List UInt8):List (List UInt8)->List UInt8
 | []=>[]
 |x::l=>x++l.flatMap (fun y=>sep++y)
def bs(l:List ByteArray):List (List UInt8):=l.map fun s=>s.data.toList
def cZ(l:List ByteArray):Nat:=(l.map ByteArray.size).sum
theorem wR{l:List _}{k}{s}(h:l[k]?=some s):cZ (l.take (k+1))=cZ (l.take k)+s.size:=by rw[List.take_add_one,h,cZ,cZ];simp
theorem nH(l)(k):cZ (l.take k)<=cZ l:=by
 have h:cZ l=cZ (l.take k)+cZ (l.drop k):=by
  rw[cZ,cZ,cZ,<-List.sum_append,<-List.map_append,List.take_append_drop]
 omega
theorem ab(sep):∀l,((bs l).flatMap (fun y=>sep++y)).length=sep.length*l.length+cZ l
 | []=>rfl
 |s::l=>by
  have c:=ab sep l;show (((s.data.toList)::bs l).flatMap _).length=_;rw[List.flatMap_cons,aCg,c,aCg,aCh,Nat.mul_add,cZ,cZ,List.map_cons,List.sum_cons];have h2:s.data.toList.length=s.size:=rfl;omega
def KP(sep x:ByteArray)(l:List ByteArray)(k:Nat):List UInt8:=x.data.toList++(bs (l.take k)).flatMap (fun y=>sep.data.toList++y)
theorem tl{sep x s}{l}{k}(h:l[k]?=some s):KP sep x l (k+1)=KP sep x l k++(sep.data.toList++s.data.toList):=by rw[KP,KP,List.take_add_one,h,bs];simp[bs]
theorem yl{l}{s}(h:s∈l):s.size<=cZ l:=by
 induction l with
 |nil=>cases h
 |cons a l b =>
  rw[cZ,List.map_cons,List.sum_cons];rcases aCr.1 h with rfl|h
  ·omega
  exact Nat.le_trans (b h) (Nat.le_add_left _ _)
theorem ae{sep x}{l}{k}(a:k<=l.length):(KP sep x l k).length<=x.size+sep.size*l.length+cZ l:=by rw[KP,aCg,ab,aCt,Nat.min_eq_left a];have h1:=nH l k;have b:sep.data.toList.length=sep.size:=rfl;have h3:x.data.toList.length=x.size:=rfl;have h4:sep.size*k<=sep.size*l.length:=Nat.mul_le_mul_left _ a;rw[b];omega
theorem vV(l:List ByteArray)(sep:ByteArray)(H:aG)(h0:0<sep.size)(K:sep.size*l.length+cZ l+l.length<17592186044416):RC 158 [.pv (aU l),sv sep] (sv ⟨(bU sep.data.toList (bs l)).toArray⟩) H:=by
 refine Pu ?_;have hml:(l.map encStr).length=l.length:=aCf _;rcases l with _|⟨x,_|⟨y,l⟩⟩
 ·refine Bd aBh rfl aAa<|Sz aH<|Sq<|Sd aC<|Zd (eR aD)<|aE<|Sd cF<|Da ?_;refine Cn ?_ ?_<;>intro h
  ·exact Sz aH<|aB<|Rt<|Qq
  cases h
 ·refine Bd aBh rfl aAa<|Sz aH<|Sq<|Sd aC<|Zd (eR aD)<|aE<|Sd cF<|Da ?_;refine Cn ?_ ?_<;>intro h
  ·cases h
  refine Sd cF<|Da ?_;refine Cn ?_ ?_<;>intro p
  ·refine Sd aC<|Dd (by exact bP rfl bT rfl rfl (by omega) (by exact aCq _) rfl rfl)<|Dd (fO isAgg9 (hi:=rfl))<|Zd aH<|aB ?_;have O:x=⟨(bU sep.data.toList (bs [x])).toArray⟩:=by simp[bU,bs]
   rw[<-O];exact Rt Qq
  cases p
 have n:((x::y::l).map encStr).length=l.length+2:=by simp_all
 have F:(x::y::l).length=l.length+2:=rfl;rw[F]at K;have j:sep.size*(l.length+2)=sep.size*(l.length+1)+sep.size:=by rfl
 obtain ⟨M,i⟩:∃M,M=sep.size*(l.length+1):=⟨_,rfl⟩;rw[<-i]at j;rw[j]at K;have hdiv:sep.size+1<=9223372036854775807 / (l.length+1):=by
  rw[Nat.le_div_iff_mul_le (Nat.succ_pos _),Nat.add_mul,<-i];omega
 have hdl:9223372036854775807 / (l.length+1)<=9223372036854775807:=Nat.div_le_self _ _;have hMp:0<M:=by simp_all
 have z:∀k,cZ ((x::y::l).take k)<=cZ (x::y::l):=nH _;refine Bd aBh rfl aAa<|Sz aH<|Sq<|Sd aC<|Zd (eR aD)<|aE<|Sd cF<|Da ?_;refine Cn ?_ ?_<;>intro h
 ·exact absurd (aCb h) (by omega)
 refine Sd cF<|Da ?_;refine Cn ?_ ?_<;>intro p
 ·exact absurd (aCb p) (by omega)
 refine aA<|Sz aH<|Sq<|Sd aC<|Dd (gF underlying9)<|Zd gX ?_;refine Cn ?_ ?_<;>intro I
 ·refine Sq<|Sd aC<|Dd (gF underlying9)<|Dd aC<|Dd (eR aD)<|Dd (by exact dB rfl rfl rfl (show IntKind.i64.wrap ((((x::y::l).map encStr).length:Int) - 1)=((l.length+1:Nat):Int)by rw[IntKind.wrap_i64,n];omega))<|Dd (by exact vP (r:=((9223372036854775807 / (l.length+1):Nat):Int)) rfl rfl rfl (by omega) (by rw[show (9223372036854775807:Int)=((9223372036854775807:Nat):Int)by rfl,<-Int.ofNat_tdiv,IntKind.wrap_i64];omega))<|Zd CX ?_;refine Cn ?_ ?_<;>intro C
  ·exact absurd (aCb C) (by omega)
  refine aA<|Rd aC<|Dd aC<|Dd (gF underlying9)<|Dd aC<|Dd (eR aD)<|Dd (by exact dB rfl rfl rfl (show IntKind.i64.wrap ((((x::y::l).map encStr).length:Int) - 1)=((l.length+1:Nat):Int)by rw[IntKind.wrap_i64,n];omega))<|Dd (by exact iY rfl rfl rfl (show IntKind.i64.wrap ((sep.size:Int)*((l.length+1:Nat):Int))=(M:Int)by rw[<-Int.natCast_mul,<-i,IntKind.wrap_i64];omega))<|Dd (by exact eA rfl rfl rfl (show IntKind.i64.wrap (0+(M:Int))=(M:Int)by rw[IntKind.wrap_i64];omega))<|Zd aH<|Sq<|Sd aC<|Dd (eR aD)<|Zd aC<|aE ?_;refine bJ (σ:=Nat) (fun k=>([(0,.pv (aU (x::y::l))),(1,sv sep),(5,iv ((M+cZ ((x::y::l).take k):Nat):Int)),(39,.pv (aU (x::y::l))),(40,iv (((x::y::l).map encStr).length:Int)),(41,iv (k:Int))],[])) (fun k=>k<=l.length+2) (fun k=>l.length+2 - k) 0 (aCw _) ?_ ?_
  ·exact Wk
  intro k hk;refine Sz cJ<|Sq ?_;refine Cn ?_ ?_<;>intro v
  ·have m:k<l.length+2:=by have:=aCb v;omega
   obtain ⟨s,t⟩:=aT (show k<(x::y::l).length by omega);have w:=cE (f:=encStr) t;have J:=wR t;have h1:=z (k+1);refine aA<|Sq<|aE<|Sd (by exact bP rfl bT rfl rfl (by omega) (by rfl) w rfl)<|Dd (fO isAgg9 (hi:=w))<|Zd aH<|Sq<|Sd aC<|Dd (gF underlying9)<|Dd aC<|Dd (by exact dB rfl rfl rfl (show IntKind.i64.wrap (9223372036854775807 - ((M+cZ ((x::y::l).take k):Nat):Int))=9223372036854775807 - ((M+cZ ((x::y::l).take k):Nat):Int)by rw[IntKind.wrap_i64];omega))<|Zd gX ?_;refine Cn ?_ ?_<;>intro G
   ·exact absurd (aCb G) (by omega)
   refine aA<|Rd aC<|Dd aC<|Dd (gF underlying9)<|Dd (by exact eA rfl rfl rfl (show IntKind.i64.wrap (((M+cZ ((x::y::l).take k):Nat):Int)+(s.size:Int))=((M+cZ ((x::y::l).take (k+1)):Nat):Int)by rw[IntKind.wrap_i64,J];omega))<|Zd aH<|Rd iF<|Zd aC ?_;exact⟨k+1,by omega,by omega,Wk⟩
  have hge:k=l.length+2:=by have:=aCc v;omega
  have hall:cZ ((x::y::l).take k)=cZ (x::y::l):=by simp_all
  have h2:=z k;refine aS<|Sz (kl 2001 JR)<|Sd aC<|Zd (kc call198 (Mp (M+cZ ((x::y::l).take k)) (by omega) (by omega)))<|Sd aC<|Dd (by exact bP rfl bT rfl rfl (by omega) (by exact aCq _) rfl rfl)<|Dd (fO isAgg9 (hi:=rfl))<|Zd (kc oD (jV 1 [] true x (by show 0+_<_;have:=nH (x::y::l) 1;simp[cZ]at this K;omega)))<|Sq<|Sd aC<|Dd (by exact mU (l:=1) (h:=((x::y::l).map encStr).length) (rows':=(y::l).map encStr) rfl bT rfl (sz:=1) (by intro r N;obtain ⟨q,_,rfl⟩:=List.mem_map.1 N;rfl) rfl rfl (by rw[n];omega) (aCl _) (by rw[List.take_length];rfl))<|Dd (eR aD)<|Zd aC<|aE ?_;have hyl:((y::l).map encStr).length=l.length+1:=by rw[aCf];rfl
  refine fZ (fun(q g:Nat)=>([(1,sv sep),(8,.ref 2001 0 0 0),(63,.pv (aU (y::l))),(64,iv (((y::l).map encStr).length:Int)),(65,iv (q:Int))],yA g (KP sep x (y::l) q) true)) (fun q g=>q<=l.length+1) (fun q g=>l.length+1 - q) 0 2 (aCw _) ?_ ?_
  ·show cQ _ _ _ _ (yA (1+1) ([]++x.data.toList++[]) true);rw[List.append_nil];exact(cQ.wk (Eb<|Ea<|Eb<|Eb<|Eb<|trivial) (Hc (gM rfl rfl)<|Hc (eP _ _)<|trivial) trivial)
  intro q g L;refine Sz cJ<|Sq ?_;refine Cn ?_ ?_<;>intro A
  ·have m:q<l.length+1:=by have:=aCb A;omega
   obtain ⟨s,t⟩:=aT (show q<(y::l).length by rw[aCh];exact m);have w:=cE (f:=encStr) t;have o:=ae (sep:=sep) (x:=x) (l:=y::l) (k:=q) (Nat.le_of_lt m);have E:=tl (sep:=sep) (x:=x) t;have hss:=yl (aCp t);have D:x.size+cZ (y::l)=cZ (x::y::l):=by simp[cZ]
   have f:(y::l).length=l.length+1:=rfl;rw[f,<-i]at o;refine aA<|Sq<|aE<|Sd (kx bT w)<|Dd (fO isAgg9 (hi:=w))<|Zd aH<|Sd aC<|Zd (kc oD (jV g (KP sep x (y::l) q) true sep (by omega)))<|Rd aC<|Zd (kc oD (jV (g+1) (KP sep x (y::l) q++sep.data.toList) true s (by rw[aCg];show _+sep.size+_<_;omega)))<|Rd iF<|Zd aC ?_;refine⟨q+1,g+1+1,by omega,by omega,?_⟩;show cQ _ _ _ _ (yA (g+1+1) (KP sep x (y::l) (q+1)) true);rw[E,<-List.append_assoc];exact(cQ.wk (Eb<|Ea<|Eb<|Eb<|Eb<|trivial) (Hc (gM rfl rfl)<|Hc (eP _ _)<|trivial) trivial)
  have u:q=l.length+1:=by have:=aCc A;omega
  have o:=ae (sep:=sep) (x:=x) (l:=y::l) L;have f:(y::l).length=l.length+1:=rfl;have D:x.size+cZ (y::l)=cZ (x::y::l):=by simp[cZ]
  rw[f,<-i]at o;refine aS<|Sd (kc oC (S0 g (KP sep x (y::l) q) true (by omega)))<|Zd aH<|aB ?_;have B:(⟨(KP sep x (y::l) q).toArray⟩:ByteArray)=⟨(bU sep.data.toList (bs (x::y::l))).toArray⟩:=by
   rw[KP,u,<-f,List.take_length];rfl
  rw[<-B];exact Rt Qq
 exact absurd (aCc I) (by omega)
def asc{α:Type}(f:α->ByteArray)(l:List α):Prop:=l.Pairwise (fun a b=>xW (f a) (f b)=true)
theorem Oh{f}{l}(h:asc f l){j:Nat}{a b:α}(c:i<j)(k:l[i]?=some a)(n:l[j]?=some b):xW (f a) (f b)=true:=by
 obtain ⟨m,d⟩:=aCj.1 k;obtain ⟨g,e⟩:=aCj.1 n;have:=List.pairwise_iff_getElem.1 h i j m g c
 rwa [d,e]at this
abbrev Wa(ps:List (List PV)):List (List AV):=ps.map (·.map .pv)
theorem Kj(ps):(Wa ps).length=ps.length:=aCf _
theorem QW{a}{t}:CK a t=false↔bS t.key=true/\xW a t.key=true/\t.val≠sNil/\t.val.size<=200:=by
 simp[CK,aDB,Bool.not_eq_false',NA,aCn]
 grind
theorem Ji{s}(h:s≠sNil):xW sNil s=true:=by
 cases e:xW _ s with
 |true=>rfl
 |false=>exact absurd (M8 (lx s) e) h
theorem wI{l:List GTag}:sE l=true↔(∀t,t∈l->bS t.key=true/\t.val≠sNil/\t.val.size<=200)/\asc GTag.key l/\l.length<=60:=by
 have g:decide ((l.length:Int)<=60)=decide (l.length<=60):=by
  grind
 rw[sE,g,aCo,aCy,List.any_eq_false,aCm];constructor
 ·rintro⟨h,y⟩;have s:∀k t,l[k]?=some t->bS t.key=true/\xW (jT GTag.key l k) t.key=true/\t.val≠sNil/\t.val.size<=200:=fun k t o=>by
   have m:=h k (List.mem_range.2 (aCj.1 o).1);rw[QX,o]at m;simp only[Bool.not_eq_true]at m;exact QW.1 m
  refine⟨fun t u=>?_,?_,y⟩
  ·obtain ⟨k,o⟩:=aDA.1 u
   grind
  have key:∀(d i:Nat) (a b:GTag),l[i]?=some a->l[i+d+1]?=some b->xW a.key b.key=true:=by
   intro d
   induction d with
   |zero =>
    intro i a b q f;have:=(s (i+1) b f).2.1;rw[jT,q]at this;exact this
   |succ d A =>
    intro i a b q f;have e:i+d+1<l.length:=by have:=(aCj.1 f).1;omega
    obtain ⟨x,r⟩:=aT e;have p:=(s (i+(d+1)+1) b f).2.1;rw[jT,show i+(d+1)=i+d+1 by omega,r]at p;exact JX (A i a x q r) p
  rw[asc,List.pairwise_iff_getElem];intro i j w v hij;exact key (j - i - 1) i _ _ (aCk w) (by rw[show i+(j - i - 1)+1=j by omega];exact aCk v)
 rintro⟨m,p,z⟩;refine⟨fun k o=>?_,z⟩;have e:=List.mem_range.1 o;rw[QX,aCk e];simp only[Bool.not_eq_true];obtain ⟨a,b,c⟩:=m _ (List.getElem_mem e);refine QW.2 ⟨a,?_,b,c⟩;cases k with
 |zero =>
  have:l[0].key≠sNil:=QA a;exact Ji this
 |succ k =>
  rw[jT,aCk (show k<l.length by omega)];exact Oh p (Nat.lt_succ_self k) (aCk (by omega)) (aCk e)
theorem Fin.slice0{H1}{id g n}{ob}(ps)(b:H1.get id=some ob)(c:ob.g=g)(a:ob.rows=ps.map (·.map .pv))(d:ps.length=n):
  Fin [] H1 (.osl id g 0 n) [] (.pv (.sl ps)):=by
 subst c d;exact Fin.fz _ b a (.osl (by simp)) rfl trivial trivial
theorem V2(l:List _):∀r∈l.map encStr,r.length=1:=fun r a=>by
 obtain ⟨t,_,rfl⟩:=List.mem_map.1 a;rfl
theorem P8(n:Nat)(H:aG)(l:H.get 904=none)(g:H.get 905=none)(i:eE H)(hn:n<1099511627776):
  aW Tryz.prog 243 [.pv .nils,iv (n:Int)] H (fun r H'=>r=.osl 905 1 0 0/\H'=(905,⟨1,1,9,[]⟩)::H):=by
 refine Bd func243 rfl ntmps243 ?_;by_cases k:n=0
 ·subst k;refine cf (t:=0) (id:=905) (sz:=1) (ty:=9) rfl g rfl ?_;refine Sz aH<|Sq<|Sd aC<|Zd cJ ?_;refine Cn ?_ ?_<;>intro f
  ·have h:=aCb f;omega
  refine aA<|Sq<|Sd aC<|Dd aC<|Dd (by exact DQ rfl aD rfl rfl rfl)<|Dd aC<|Dd (by exact DP rfl aD rfl rfl rfl)<|Dd (by exact dB rfl rfl rfl (by exact lI (by omega) (by omega)))<|Dd (by exact dB rfl rfl rfl (by exact lI (by omega) (by omega)))<|Zd aH<|Sd aC<|Zd gX ?_;refine Cn ?_ ?_<;>intro e
  ·have h:=aCb e;omega
  refine aA<|Sq ?_;refine uz (t:=0) rfl rfl rfl (by decide) ?_;refine Rd aC<|Zd aH<|aB ?_;refine dA (H':=((905,⟨1,1,9,[]⟩)::H)) (.inr rfl) rfl (aJ rfl) ((Fin.bump (g:=0) (k:=1) rfl rfl (by decide) rfl rfl rfl).trans (Fin.get' (fun j=>yP _ _ _ _ j))) ?_;exact Qq
 refine cf (t:=0) (id:=904) (sz:=1) (ty:=9) rfl l rfl ?_;have d:aG.get ((904,(⟨0,1,9,[]⟩:Ob))::H) 905=none:=g;refine Sz aH<|Sq<|Sd aC<|Zd cJ ?_;refine Cn ?_ ?_<;>intro c
 ·have h:=aCb c;omega
 refine aA<|Sq<|Sd aC<|Dd aC<|Dd (by exact DQ rfl aD rfl rfl rfl)<|Dd aC<|Dd (by exact DP rfl aD rfl rfl rfl)<|Dd (by exact dB rfl rfl rfl (by exact lI (by omega) (by omega)))<|Dd (by exact dB rfl rfl rfl (by exact lI (by omega) (by omega)))<|Zd aH<|Sd aC<|Zd gX ?_;refine Cn ?_ ?_<;>intro b
 ·refine Rd aC<|Dd aC<|Dd (by exact DQ rfl aD rfl rfl rfl)<|Dd (by exact YG (l:=0) (h:=0) rfl bT rfl rfl rfl rfl rfl rfl (aCl _) (aCl _) rfl rfl rfl)<|Dd aC<|Dd (by exact N3 (id2:=905) (m:=n) rfl bT underlying3 zT Ig rfl rfl rfl rfl rfl (aCl _) rfl (by omega) (by omega) (by omega) (aCx _) (by omega) d rfl)<|Dd aC<|Dd (by exact DP rfl aD rfl rfl rfl)<|Dd (by exact jU (l:=0) (h:=0) rfl bT rfl rfl rfl rfl rfl rfl (aCl _) (by omega) rfl rfl)<|Zd aH<|Sd aC<|Zd aH<|aB ?_;refine dA (H':=((905,⟨1,1,9,[]⟩)::H)) (.inr rfl) rfl (aJ rfl) ((Fin.trunc (g:=0) (k:=1) (sz:=1) (ty:=9) (rows:=[]) rfl rfl (by decide) rfl rfl (List.take_zero)).trans (Fin.front' [_,_,_] [(905,⟨1,1,9,[]⟩)] (by simp;rfl) (by simp_all) (by simp[aG.get]) (by simp) i (by simp_all))) ?_;exact Qq
 have h:=aCc b;omega
theorem KZ(ls:List (List ByteArray))(H:aG)(hls:ls.length<1099511627776)(v:ls.flatten.length<1099511627776):
  RC 204 [.pv (.sl (ls.map (fun l=>[.sl (l.map encStr)])))] (.pv (.sl (ls.flatten.map encStr))) H:=by
 refine Pu ?_;have hml:(ls.map (fun l=>[PV.sl (l.map encStr)])).length=ls.length:=aCf _;have e:∀k,((ls.take k).flatten).length<=ls.flatten.length:=fun k=>by
  conv=>rhs;rw[<-List.take_append_drop k ls,List.flatten_append,aCg]
  omega
 have j:∀k l,ls[k]?=some l->(ls.take (k+1)).flatten=(ls.take k).flatten++l:=fun k l h=>by
  rw[List.take_add_one,h,List.flatten_append];simp
 refine Bd func204 rfl ntmps204<|Sz aH<|Sz aH<|Sq<|Sd aC<|Dd (eR G8)<|Zd aC<|aE ?_;refine bJ (σ:=Nat) (fun k=>([(0,.pv (.sl (ls.map (fun l=>[.sl (l.map encStr)])))),(3,iv (((ls.take k).flatten).length:Int)),(9,.pv (.sl (ls.map (fun l=>[.sl (l.map encStr)])))),(10,iv ((ls.map (fun l=>[PV.sl (l.map encStr)])).length:Int)),(11,iv (k:Int))],[])) (fun k=>k<=ls.length) (fun k=>ls.length - k) 0 (by omega) ?_ ?_
 ·exact E0
 intro k y;refine Sz cJ<|Sq ?_;refine Cn ?_ ?_<;>intro m
 ·have i:k<ls.length:=by have:=aCb m;omega
  obtain ⟨l,o⟩:=aT i;have w:=cE (f:=fun l=>[PV.sl (l.map encStr)]) o;have d:(l.map encStr).length=l.length:=aCf _;have s:=j k l o;have x:=e (k+1);have t:((ls.take (k+1)).flatten).length=((ls.take k).flatten).length+l.length:=by simp_all
  have u:IntKind.i64.wrap ((((ls.take k).flatten).length:Int)+((l.map encStr).length:Int))=(((ls.take (k+1)).flatten).length:Int):=by rw[IntKind.wrap_i64,d,t];omega
  refine aA<|Sq<|aE<|Sd (jE LM)<|Dd (fO aF)<|Zd aH<|Sd aC<|Dd aC<|Dd (eR aD)<|Dd (ka u)<|Zd aH<|Sd aC<|Zd cJ ?_;refine Cn ?_ ?_<;>intro q
  ·have h:=aCb q;omega
  refine aA<|Rd iF<|Zd aC ?_;exact⟨k+1,by omega,by omega,E0⟩
 have f:k=ls.length:=by have:=aCc m;omega
 subst f;rw[List.take_length];refine aS<|Sd aC<|Dd (by exact WM rfl rfl call243 rfl (P8 ls.flatten.length [] rfl rfl (eE.of (by simp)) v))<|Zd aH<|Sq<|Sd aC<|Dd (eR G8)<|Zd aC<|aE ?_;refine fZ (fun(k:Nat) (g:Nat)=>([(6,.osl 905 g 0 ((ls.take k).flatten.map encStr).length),(25,.pv (.sl (ls.map (fun l=>[.sl (l.map encStr)])))),(26,iv ((ls.map (fun l=>[PV.sl (l.map encStr)])).length:Int)),(27,iv (k:Int))],[(905,⟨g,1,9,Wa ((ls.take k).flatten.map encStr)⟩)])) (fun k g=>k<=ls.length) (fun k g=>ls.length - k) 0 1 (by omega) ?_ ?_
 ·exact E0
 intro k g y;refine Sz cJ<|Sq ?_;refine Cn ?_ ?_<;>intro n
 ·have i:k<ls.length:=by have:=aCb n;omega
  obtain ⟨l,o⟩:=aT i;have w:=cE (f:=fun l=>[PV.sl (l.map encStr)]) o;have d:(l.map encStr).length=l.length:=aCf _;have hml3:((ls.take k).flatten.map encStr).length=((ls.take k).flatten).length:=aCf _;have s:=j k l o;have x:=e (k+1);have t:((ls.take (k+1)).flatten).length=((ls.take k).flatten).length+l.length:=by simp_all
  refine aA<|Sq<|aE<|Sd (jE LM)<|Dd (fO aF)<|Zd aH<|Rd aC<|Dd aC<|Dd (by exact cG rfl bT zT rfl rfl rfl rfl rfl (Kj _) rfl (V2 l) rfl (by omega) (by simp_all:((ls.take k).flatten.map encStr).length+(l.map encStr).length=((ls.take (k+1)).flatten.map encStr).length) (by rw[s,List.map_append,Wa,Wa,List.map_append]:Wa ((ls.take k).flatten.map encStr)++(l.map encStr).map (·.map .pv)=Wa ((ls.take (k+1)).flatten.map encStr)))<|Zd aH<|Rd iF<|Zd aC ?_;exact⟨k+1,g+1,by omega,by omega,cQ.dup ⟨⟨_,rfl,rfl⟩,⟨_,rfl,rfl⟩,⟨_,rfl,rfl⟩,⟨_,rfl,rfl⟩,trivial⟩⟩
 have f:k=ls.length:=by have:=aCc n;omega
 subst f;rw[List.take_length];refine aS<|Sd aC<|Zd aH<|aB ?_;refine dA (H':=[]) (.inr rfl) rfl (aJ rfl) (Fin.slice0 (id:=905) (ls.flatten.map encStr) rfl rfl rfl rfl) ?_;exact Qq
theorem A0{o}(h:nA o=true):o.refs.length<=2000/\o.tags.length<=60/\sE o.tags=true/\bS o.id=true/\(o.kind=2->2<=o.refs.length):=by rw[nA,aCo,LZ,uV]at h;have a:=h.1;simp[aDB,Bool.not_eq_false',aCn]at a;obtain ⟨⟨⟨⟨a1,d⟩,b⟩,c⟩,a5⟩:=a;refine⟨by omega,(wI.1 b).2.2,b,d,fun e=>?_⟩;rw[e,show DZ 2=2 from rfl]at c;omega
theorem tI{e}:dT e=true↔(1<=e.op/\e.op<=7)/\rY e=true/\BC e=e:=by rw[dT,aCo,aCo,aCo,aCm,aCm,oM]
theorem GT{e}(h:dT e=true):e.val.size<=200:=by
 obtain ⟨_,a,b⟩:=tI.1 h;have d:(BC e).val=e.val:=by rw[b]
 by_cases c:e.op=3
 ·rw[rY,aCd (by omega),aCd (by omega),aCe c,aCo,aCo,aCm]at a;omega
 have:e.val=sNil:=by
  rw[<-d,BC]
  grind
 rw[this];decide
abbrev aBZ(m:List GObj)(s:ByteArray):Option GObj:=m.find? (aB2 s)
theorem tv{o}(h:nA o=true):1<=o.kind/\o.kind<=5:=by
 rw[nA,aCo,LZ,uV]at h;have g:=h.1;simp[aDB,aCn]at g;have e:=g.1.1.1.1;unfold dZ at e;by_cases a:o.kind=1
 ·omega
 by_cases b:o.kind=2
 ·omega
 by_cases c:o.kind=3
 ·omega
 by_cases d:o.kind=4
 ·omega
 by_cases f:o.kind=5
 ·omega
 rw[aCd a,aCd b,aCd c,aCd d,aCd f]at e;exact absurd rfl e
def qF(s:ByteArray):ByteArray:=aY (s.size:Int)++⟨#[58]⟩++s
def aP(l:List ByteArray):List UInt8:=l.flatMap fun s=>(qF s).data.toList
def wA(l:List ByteArray):ByteArray:=tL ⟨(aP l).toArray⟩
theorem qJ{n}(b : -9223372036854775808<=n)(c:n<=9223372036854775807):(aY n).size<=21:=by have:=Lib.itoa_length_le n b c;show (Lib.itoa n).toArray.size<=21;omega
theorem qY(s):(qF s).size=(aY (s.size)).size+1+s.size:=by rw[qF,ByteArray.size_append,ByteArray.size_append];rfl
theorem vW(l)(s):aP (l++[s])=aP l++(qF s).data.toList:=by rw[aP,aP,List.flatMap_append,List.flatMap_cons,List.flatMap_nil,List.append_nil]
theorem B9:∀(l) (k),(aP (l.take k)).length<=(aP l).length:=fun l k=>by
 have h:aP l=aP (l.take k)++aP (l.drop k):=by rw[aP,aP,aP,<-List.flatMap_append,List.take_append_drop]
 rw[h,aCg];omega
theorem kA{l:List α}{k}{a}(h:l[k]?=some a):l.take (k+1)=l.take k++[a]:=by rw[List.take_add_one,h,Option.toList_some]
theorem qX(s:ByteArray):s.data.toList.length=s.size:=rfl
theorem DW:∀l,l.length<=(aP l).length
 | []=>aCl _
 |s::r=>by
  have ih:=DW r;have h:aP (s::r)=(qF s).data.toList++aP r:=rfl;rw[h,aCg,aCh,qX,qY];omega
theorem Ch(l:List ByteArray)(H:aG)(hl:(aP l).length<35184372088832):RC 130 [.pv (aU l)] (sv (wA l)) H:=by
 refine Pu ?_;have hml:(l.map encStr).length=l.length:=aCf _;have hll:=DW l;refine Bd func130 rfl ntmps130<|Sz aH<|Sz (kl 2001 JR)<|Sq<|Sq ?_;refine gC.ent (E':=[(0,.pv (aU l)),(3,.ref 2001 0 0 0)]) (H':=yA 0 [] false) (cQ.bld0 ⟨⟨_,rfl,.same (by simp)⟩,⟨_,rfl,.same (by simp;rfl)⟩,trivial⟩) ?_;refine Rd aC<|Dd (eR aD)<|Zd aC<|aE ?_;refine A6 (fun(k g:Nat) (u:Bool)=>([(3,.ref 2001 0 0 0),(6,.pv (aU l)),(7,iv ((l.map encStr).length:Int)),(8,iv (k:Int))],yA g (aP (l.take k)) u)) (fun k g u=>k<=l.length) (fun k g u=>l.length - k) 0 0 false (aCw _) ?_ ?_
 ·exact(cQ.wk (Ea<|Eb<|Eb<|Eb<|trivial) (Hc (gM rfl rfl)<|Hc (eP _ _)<|trivial) trivial)
 intro k g u hk;have hle:=B9 l k;refine Sz cJ<|Sq ?_;refine Cn ?_ ?_<;>intro d
 ·have j:k<l.length:=by have:=aCb d;omega
  obtain ⟨s,i⟩:=aT j;have hi:=cE (f:=encStr) i;have f:=B9 l (k+1);rw[kA i,vW,aCg,qX,qY]at f;have hsz:s.size<35184372088832:=by omega
  refine aA<|Sq<|aE<|Sd (jE bT)<|Dd (fO isAgg9)<|Zd aH<|Rd aC<|Dd (gF underlying9)<|Dd (kc qR (vX (s.size:Int) (by omega) (by omega) _))<|Dd (by exact fM rfl rfl rfl (by have:(⟨#[58]⟩:ByteArray).size=1:=rfl;omega) rfl)<|Dd aC<|Dd (by exact fM rfl rfl rfl (by rw[ByteArray.size_append];have:(⟨#[58]⟩:ByteArray).size=1:=rfl;omega) rfl)<|Zd (kc oD (jV g (aP (l.take k)) u (qF s) (by rw[qY];omega)))<|Rd iF<|Zd aC ?_;refine⟨k+1,g+1,true,by omega,by omega,?_⟩;rw[kA i,vW];exact(cQ.wk (Ea<|Eb<|Eb<|Eb<|trivial) (Hc (gM rfl rfl)<|Hc (eP _ _)<|trivial) trivial)
 have h:k=l.length:=by have:=aCc d;omega
 subst h;rw[List.take_length];exact aS<|Sd (kc oC (S0 g (aP l) u (by omega)))<|Dd (kc XV (YN ⟨(aP l).toArray⟩ _ (by show (aP l).toArray.size<_;grind)))<|Zd aH<|aB<|Rt<|Qq
theorem gP(s):(tL s).size=16:=rfl
def yS:ByteArray->Nat->ByteArray
 |t,0=>t
 |t,n+1=>yS (tL t) n
theorem XH:∀(a b) (t),yS (yS t a) b=yS t (a+b)
 |0,b,t=>by rw[aCx];rfl
 |a+1,b,t=>by
  rw[show a+1+b=(a+b)+1 by omega];exact XH a b _
theorem A3(t)(n):yS t (n+1)=tL (yS t n):=by rw[<-XH n 1 t];rfl
theorem QT{t}(h:t.size=16):∀n,(yS t n).size=16
 |0=>h
 |n+1=>by rw[A3,gP]
def X2(m:ByteArray):Nat:=QL (SH m.size) m.data.toList
def dJ(m:ByteArray):List Nat:=(List.range 16).map (LU (X2 m))
def sT(m:ByteArray):Nat:=((dJ m).map (15 - ·)).sum
def FJ(m:ByteArray):List Nat:=dJ m++[sT m / 16,sT m % 16]
theorem je(m):(dJ m).length=16:=rfl
theorem NW(m):(FJ m).length=18:=rfl
theorem OG:∀l:List _,(l.map (15 - ·)).sum<=15*l.length
 | []=>aCl _
 |a::r=>by
  have:=OG r;simp[List.map_cons,List.sum_cons,aCh];omega
theorem OX(m):sT m<=240:=by have:=OG (dJ m);exact this
theorem XB(m:ByteArray):∀d∈FJ m,d<16:=by
 intro d a;rcases List.mem_append.1 a with h|h
 ·obtain ⟨j,_,rfl⟩:=List.mem_map.1 h;exact B1 _ _
 have:=OX m;simp only[aCr,aCv,or_false]at h;rcases h with rfl|rfl<;>omega
def CT:ByteArray:=⟨#[110,111,100,101]⟩
def nQ(s:ByteArray)(i k:Nat):ByteArray:=wA [s,aY (i:Int),aY (k:Int)]
def IY(s:ByteArray)(i:Nat):List ByteArray:=(List.range 18).map fun k=>yS (nQ s i k) 15
def SC(s:ByteArray)(i:Nat):ByteArray:=wA (IY s i)
def oL(s:ByteArray)(h:Nat):List ByteArray:=(List.range (2 ^ h)).map (SC s)
def sC(a b:ByteArray):ByteArray:=wA [CT,a,b]
def cu:List ByteArray->List ByteArray
 |a::b::r=>sC a b::cu r
 |_=>[]
def Y1:Nat->List ByteArray->ByteArray
 |0,l=>l.headD sNil
 |h+1,l=>Y1 h (cu l)
def pH:Nat->List ByteArray->Nat->List ByteArray
 |0,_,_=>[]
 |h+1,l,i=>l.getD (i ^^^ 1) sNil::pH h (cu l) (i / 2)
def yZ(s:ByteArray)(h:Nat):ByteArray:=Y1 h (oL s h)
def MJ(s:ByteArray)(i:Nat)(m:ByteArray):List ByteArray:=(List.range 18).map fun k=>yS (nQ s i k) ((FJ m).getD k 0)
def sI:ByteArray->List ByteArray->Nat->ByteArray
 |at',[],_=>at'
 |at',o::r,i=>sI (if i % 2=1 then sC o at' else sC at' o) r (i / 2)
def nL(m:ByteArray)(l:List ByteArray):List ByteArray:=List.zipWith (fun s d=>yS s (15 - d)) l (FJ m)
def MR(b:UInt8):Bool:=(48<=b&&b<=57)||(97<=b&&b<=102)
def isJ(t:ByteArray):Bool:=decide (t.size=16)&&t.data.toList.all MR
def uR(key m:ByteArray)(i:Int)(l p:List ByteArray):Bool :=decide (l.length=18/\p.length<=8)&&l.all isJ&&p.all isJ&&decide (0<=i/\i<2 ^ p.length)&&decide (sI (wA (nL m l)) p i.toNat=key)
theorem EH:∀(n) (l),l.length=2*n->(cu l).length=n
 |0,[],_=>rfl
 |n+1,a::b::r,h=>by
  have:=EH n r (by grind);rw[cu,aCh,this]
 |n+1,[a],h=>by grind
 |n+1,[],h=>by grind
 |0,a::r,h=>by grind
theorem VG:∀(n) (l) (k),l.length=2*n->k<n->(cu l).getD k sNil=sC (l.getD (2*k) sNil) (l.getD (2*k+1) sNil)
 |0,l,k,_,c=>by omega
 |n+1,[],k,h,_=>by grind
 |n+1,[a],k,h,_=>by grind
 |n+1,a::b::r,0,h,_=>rfl
 |n+1,a::b::r,k+1,h,c=>by
  have d:=VG n r k (by grind) (by omega);rw[cu,show 2*(k+1)=2*k+1+1 by omega,List.getD_cons_succ,d,List.getD_cons_succ,List.getD_cons_succ,List.getD_cons_succ,List.getD_cons_succ]
theorem VC(i):i ^^^ 1=if i % 2=1 then i - 1 else i+1:=by
 have h2:(i ^^^ 1) / 2=i / 2:=by
  rw[Nat.xor_div_two];simp
 have h3:=by
  have:=Nat.xor_mod_two_pow (a:=i) (b:=1) (n:=1)
  simpa using this
 have h4:(i ^^^ 1) % 2=1 - i % 2:=by
  grind
 split
 ·omega
 omega
theorem UH:∀(h) (l) (i),l.length=2 ^ h->i<2 ^ h->sI (l.getD i sNil) (pH h l i) i=Y1 h l
 |0,l,i,e,d=>by
  have:i=0:=by omega
  subst this;cases l<;>rfl
 |h+1,l,i,e,d=>by
  have a:l.length=2*2 ^ h:=by omega
  have b:i / 2<2 ^ h:=by omega
  have c:=UH h _ _ (EH _ _ a) b;rw[pH,sI,Y1,<-c,VG _ _ _ a b,VC]
  grind
theorem J7:∀(h) (l) (i),(pH h l i).length=h
 |0,_,_=>rfl
 |h+1,l,i=>by rw[pH,aCh,J7 h]
theorem AR(s)(h):(oL s h).length=2 ^ h:=by simp[oL]
theorem tk(s){h i}(hi:i<2 ^ h):(oL s h).getD i sNil=SC s i:=by rw[List.getD_eq_getElem?_getD,oL,aCz,List.getElem?_range hi];rfl
theorem wH{l:List α}{k}{d}(h:k<l.length):l.getD k d∈l:=by simp_all
theorem Eh(s)(i)(m):nL m (MJ s i m)=IY s i:=by
 apply List.ext_getElem?;intro k;rw[nL,List.getElem?_zipWith,MJ,IY,aCz,aCz];by_cases c:k<18
 ·have b:k<(FJ m).length:=by exact c
  have hlt:=XB m _ (wH (d:=0) b);have d:(FJ m)[k]?=some ((FJ m).getD k 0):=by
   rw[List.getD_eq_getElem?_getD,aCk b];rfl
  rw[List.getElem?_range c,d];show some _=some _;rw[XH,show (FJ m).getD k 0+(15 - (FJ m).getD k 0)=15 by omega]
 rw[List.getElem?_eq_none (by simp;omega)];rfl
theorem Dl{n}(h:n<16):MR (UInt8.ofNat (rK n).toNat)=true:=by revert n;decide
theorem NR(s):isJ (tL s)=true:=by rw[isJ,aCo,aCm];refine⟨gP s,?_⟩;rw[List.all_eq_true];intro b a;obtain ⟨j,_,rfl⟩:=List.mem_map.1 (show b∈(List.range _).map _ from by simpa[tL,AX]using a);exact Dl (B1 _ _)
theorem Uj{t}(h:isJ t=true):∀n,isJ (yS t n)=true
 |0=>h
 |n+1=>by rw[A3];exact NR _
theorem pK{t}(h:isJ t=true):t.size=16:=by rw[isJ,aCo,aCm]at h;omega
theorem YT(s)(i)(m):∀t∈MJ s i m,isJ t=true:=by intro t a;obtain ⟨k,_,rfl⟩:=List.mem_map.1 a;exact Uj (NR _) _
theorem YS(s)(i)(m):(MJ s i m).length=18:=rfl
theorem M0:∀(n) (l),l.length<=n->∀t∈cu l,isJ t=true
 |_,[],_,t,c=>by simp[cu]at c
 |_,[a],_,t,c=>by simp[cu]at c
 |0,a::b::r,h,t,c=>by grind
 |n+1,a::b::r,h,t,c=>by
  rcases aCr.1 c with rfl|c
  ·exact NR _
  exact M0 n r (by grind) t c
theorem J8:∀(h) (l) (i),l.length=2 ^ h->i<2 ^ h->(∀t∈l,isJ t=true)->∀t∈pH h l i,isJ t=true
 |0,_,_,_,_,_,t,a=>by simp[pH]at a
 | h+1,l,i,hl,hi,ha,t,a=>by
  have b:l.length=2*2 ^ h:=by omega
  rcases aCr.1 a with rfl|a
  ·rw[VC]
   grind
  exact J8 h _ _ (EH _ _ b) (by omega) (M0 _ _ (aCl _)) t a
theorem E5(s)(h):∀t∈oL s h,isJ t=true:=by intro t a;obtain ⟨k,_,rfl⟩:=List.mem_map.1 a;exact NR _
theorem xf(s m){h:Nat}(c:h<=8)(hi:i<2 ^ h):uR (yZ s h) m i (MJ s i m) (pH h (oL s h) i)=true:=by
 have b:=UH h _ i (AR s h) hi;rw[tk s hi,SC,<-Eh s i m]at b;rw[uR,J7,YS,List.all_eq_true.2 (YT s i m),List.all_eq_true.2 (J8 h _ i (AR s h) hi (E5 s h)),aCq,b];have a:(i:Int)<2 ^ h:=by grind
 simp[c,yZ,a]
def cH(l:List ByteArray):List (List AV):=l.map fun s=>[.pv (.str s)]
theorem fP(l):(cH l).length=l.length:=aCf _
theorem jZ(l)(s):cH l++[[.pv (.str s)]]=cH (l++[s]):=by rw[cH,cH,List.map_append];rfl
theorem bQ(H)(l):∀r∈cH l,∀a∈r,Clo H a:=by intro r d a c;obtain ⟨b,_,rfl⟩:=List.mem_map.1 d;rw[aCi]at c;subst c;simp
theorem eO(l):cH l=(l.map encStr).map (·.map .pv):=by rw[List.map_map];rfl
def iH(t:GTag):ByteArray:=t.key++⟨#[61]⟩++⟨(cX t.val.data.toList).toArray⟩
def wK(L:List ByteArray):aG:=[(903,⟨L.length,1,9,cH L⟩),(4,bx 1 22 [.osl 903 L.length 0 L.length])]
theorem Rc(L)(s):wK (L++[s])=[(903,⟨L.length+1,1,9,cH (L++[s])⟩),(4,bx 1 22 [.osl 903 (L.length+1) 0 (L.length+1)])]:=by simp[wK]
theorem qD(s:ByteArray):(⟨(cX s.data.toList).toArray⟩:ByteArray).size<=2*s.size+2:=by show (cX _).length<=_;have:=az s.data.toList;have h:s.data.toList.length=s.size:=rfl;rw[cX,aCh,aCg,List.length_singleton];omega
theorem nt{i j}{a b a' d}{id}(h:(aG.get [(i,a),(j,b)] id).isSome=true):(aG.get [(i,a'),(j,d)] id).isSome=true:=by
 simp[aG.get]at h |-
 grind
theorem Ix(t:GTag)(L:List ByteArray)(hk:t.key.size<1099511627776)(hv:t.val.size<1099511627776)(hL:L.length<1099511627776):
  aW Tryz.prog 265 [av (bM t),.ref 4 0 0 0] (wK L) (fun r H'=>r=.tup []/\H'=wK (L++[iH t])):=by
 rw[Rc];have hq:=qD t.val;have h61:(⟨#[61]⟩:ByteArray).size=1:=rfl;have hks:(t.key++⟨#[61]⟩:ByteArray).size=t.key.size+1:=by simp_all
 refine Bd func265 rfl ntmps265<|Sz (kb 2)<|aL follows<|Cr [4] (fun _ h=>lh aF h)<|Cr [2] (fun _ h=>fh nW h)<|Cr [2] (fun _ h=>lh isAgg9 h)<|Cr [] (fun d b=>by exact fM rfl rfl rfl (by omega) rfl)<|Cr [2] (fun _ h=>fh oU h)<|Cr [2] (fun _ h=>lh isAgg9 h)<|Cr [] (fun d b=>by exact bL rfl rfl call203 rfl (mz t.val _ (by omega)))<|Cr [] (fun d b=>by exact fM rfl rfl rfl (by omega) rfl)<|Cr [] (fun d b=>by exact aN [[.str (iH t)]] rfl bT rfl rfl rfl rfl rfl (by simp_all))<|Cp [903] (fun d b=>by exact cG (ps:=[[.str (iH t)]]) rfl bT zT rfl ((b _ rfl).trans rfl) rfl rfl rfl (fP L) rfl (by simp_all) (m:=1) rfl (by omega) rfl (jZ L (iH t))) ?_;refine Cp [4] (fun _ h=>sa sizeOf22 h)<|bF<|Kr ?_;exact uP (H':=[(903,⟨L.length+1,1,9,cH (L++[iH t])⟩),(4,bx 1 22 [.osl 903 (L.length+1) 0 (L.length+1)])]) (.inl rfl) rfl (Fin.wk (by(simp;done)) (Hc (bQ _ _)<|Ha<|trivial) ⟨rfl,rfl,trivial⟩) ⟨rfl,rfl⟩
def UF(l:List GTag):ByteArray:=⟨(bU [32] (bs (l.map iH))).toArray⟩
def jH(l:List GTag):ByteArray×Int:=if sE l then(if 20000<(UF l).size then(sNil,2)else(UF l,0))else(sNil,1)
theorem T5{t}(hk:t.key.size<=24)(hv:t.val.size<=200):(iH t).size<=427:=by have hq:=qD t.val;have h61:(⟨#[61]⟩:ByteArray).size=1:=rfl;rw[iH,ByteArray.size_append,ByteArray.size_append];omega
theorem dL{s}(h:bS s=true):s.size<=24:=by rw[bS,aCo,aCo,aCm]at h;omega
theorem oH{l}{n}(h:∀s,s∈l->s.size<=n):cZ l<=n*l.length:=by
 induction l with
 |nil=>exact aCw _
 |cons a l b =>
  rw[cZ,List.map_cons,List.sum_cons,aCh,Nat.mul_succ];have h1:=h a List.mem_cons_self;have d:=b (fun s c=>h s (List.mem_cons_of_mem _ c));rw[cZ]at d;omega
theorem aAK{L}{r}(h:aW Tryz.prog 158 [.pv (aU L),sv ⟨#[32]⟩] [] (fun x H'=>x=sv r/\H'=[])):aW Tryz.prog 158 [.osl 903 L.length 0 L.length,sv ⟨#[32]⟩] ((903,⟨L.length,1,9,cH L⟩)::K) (fun x H'=>x=sv r/\H'=(903,⟨L.length,1,9,cH L⟩)::K):=by
 exact RO.calls (RO.lend _ (RO.of h rfl) (get_cons_same _ _ _) (eO L) rfl
  (cA (.osl (by rw[List.drop_zero,List.take_of_length_le (by simp)])) (cA (.same (by simp)) mD)) (fun _ _ h=>by cases h) (fun _ _ h=>by cases h) rfl)
theorem SW(l:List GTag)(H:aG)(z:GJ l):RC 235 [.pv (oG l)] (.tup [sv (jH l).1,iv (jH l).2]) H:=by
 refine Pu ?_;have hml:(l.map bM).length=l.length:=aCf _;refine Bd func235 rfl ntmps235<|Sd aH<|Zd aH<|Sq<|Sd aC<|Dd (kc vo (BL l _ z))<|Zd iJ ?_;refine Cn ?_ ?_<;>intro hc1
 ·have i:sE l=false:=by simp_all
  have e:jH l=(sNil,1):=by rw[jH,aCd (by simp_all)]
  rw[e];exact Sd aH<|Zd aH<|aB<|Ru<|Qq
 have i:sE l=true:=by simp_all
 obtain ⟨u,g2,g3⟩:=wI.1 i;refine aA<|Sz (kl 4 wg)<|Sd (by exact hU rfl rfl)<|Zd aH<|Sq<|Sq ?_;refine gC.ent (E':=[(0,.pv (oG l)),(4,.ref 4 0 0 0),(5,.clo 265 [.ref 4 0 0 0])]) (H':=wK []) (cQ.nz 903 1 9 rfl rfl ⟨⟨_,rfl,(by exact Nz.same (by(simp;done)))⟩,⟨_,rfl,(by exact Nz.same (by(simp;rfl)))⟩,⟨_,rfl,(by exact Nz.same (by(simp;rfl)))⟩,trivial⟩ ⟨⟨_,rfl,rfl,rfl,rfl,(by exact .inr ⟨_,_,rfl,rfl,(by repeat(first|exact trivial|refine⟨(by exact Nz.own),?_⟩))⟩)⟩,trivial⟩ trivial) ?_;refine Rd aC<|Dd (eR cY)<|Zd aC<|aE ?_;refine bJ (σ:=Nat) (fun k=>([(4,.ref 4 0 0 0),(5,.clo 265 [.ref 4 0 0 0]),(13,.pv (oG l)),(14,iv ((l.map bM).length:Int)),(15,iv (k:Int))],wK ((l.take k).map iH))) (fun k=>k<=l.length) (fun k=>l.length - k) 0 (aCw _) ?_ ?_
 ·exact(cQ.wk (Ea<|Ea<|Eb<|Eb<|Eb<|trivial) (Hc (bQ _ _)<|Ha<|trivial) trivial)
 intro k hk;refine Sz cJ<|Sq ?_;refine Cn ?_ ?_<;>intro d
 ·have j:k<l.length:=by have:=aCb d;omega
  obtain ⟨t,g⟩:=aT j;have w:=cE (f:=bM) g;obtain ⟨m,B,v⟩:=u t (aCp g);have b4:=dL m;have q:((l.take k).map iH).length<1099511627776:=by grind
  have o:(l.take (k+1)).map iH=(l.take k).map iH++[iH t]:=by rw[List.take_add_one,g,List.map_append];rfl
  refine aA<|Sq<|aE<|Sd (by exact bP rfl jX rfl rfl (by omega) (by rfl) w rfl)<|Dd (by exact dM rfl wD kW rfl w (by simp only[Zl,bM];rfl) rfl)<|Dd (kl 7 Pa)<|Uu (iP kW)<|Zz<|Rd aC<|Dd (kY wD kW)<|Zd (by exact cW rfl rfl rfl (dI.clo call265 (aW.frame (Ix t ((l.take k).map iH) (by omega) (by omega) q) (RT.sub ⟨rfl,rfl,trivial⟩) (eE.ofL ⟨(by exact bQ _ _),(by(simp;rfl)),trivial⟩) (by simp;rfl) (fun id h=>.inl (nt h)))))<|Rd iF<|Zd aC ?_;refine⟨k+1,by omega,by omega,?_⟩;show cQ _ _ _ _ (wK ((l.take (k+1)).map iH));rw[o];exact(cQ.wk (Ea<|Ea<|Eb<|Eb<|Eb<|trivial) (Hc (bQ _ _)<|Ha<|trivial) trivial)
 have n:k=l.length:=by have:=aCc d;omega
 subst n;have hsb:cZ (l.map iH)<=427*l.length:=by
  have:=oH (l:=l.map iH) (n:=427) (fun s A=>by
   obtain ⟨t,g,rfl⟩:=List.mem_map.1 A;obtain ⟨m,B,v⟩:=u t g;exact T5 (dL m) v)
  rwa [aCf]at this
 have y:aW Tryz.prog 158 [.pv (aU (l.map iH)),sv ⟨#[32]⟩] [] (fun x H'=>x=sv (UF l)/\H'=[]):=vV (l.map iH) ⟨#[32]⟩ [] (by decide) (by rw[aCf];show 1*_+_+_<_;omega);have p:=aAK (L:=l.map iH) (K:=[(4,bx 1 22 [.osl 903 (l.map iH).length 0 (l.map iH).length])]) y;rw[List.take_length];refine aS<|Sd (bD aF)<|Dd (kc qQ (p))<|Zd aH<|Sq<|Sd aC<|Dd (gF underlying9)<|Zd gX ?_;refine Cn ?_ ?_<;>intro f
 ·have e:jH l=(sNil,2):=by
   rw[jH,aCe i,aCe (by have:=aCb f;omega)]
  rw[e];exact Sd aH<|Zd aH<|aB<|Ru<|Qq
 have e:jH l=(UF l,0):=by
  rw[jH,aCe i,aCd (by have:=aCc f;omega)]
 rw[e];exact aA<|Sd aC<|Dd aH<|Zd aH<|aB<|Ru<|Qq
theorem uo{t}(h:t.size<1099511627776):∀n,(yS t n).size<1099511627776
 |0=>h
 |n+1=>by rw[A3,gP];decide
theorem XG(t)(n:Nat)(H)(e:t.size<1099511627776)(hn:n<1000):RC 93 [sv t,iv n] (sv (yS t n)) H:=by
 refine Pu ?_;refine Bd func93 rfl ntmps93<|Sz aH<|Sq<|Sd aC<|Zd aC<|aE ?_;refine bJ (fun k=>([(0,sv (yS t k)),(5,iv n),(6,iv k)],[])) (fun k=>k<=n) (fun k=>n - k) 0 (aCw _) ?_ ?_
 ·exact Wk
 intro k hk;have b:=fun H=>YN (yS t k) H (by have:=uo e k;omega);rw[<-A3]at b;refine Sz cJ<|Sq ?_;refine Cn ?_ ?_<;>intro c
 ·have hlt:=by have:=aCb c;omega
  refine aA<|Sq<|aE<|Rd aC<|Dd (bL rfl rfl XV rfl (b _))<|Zd aH<|Rd (by exact eA rfl rfl rfl (show IntKind.i64.wrap _=((k+1:Nat):Int)by rw[lI (by omega) (by omega)];omega))<|Zd aC ?_;exact⟨k+1,by omega,by omega,Wk⟩
 have d:k=n:=by have:=aCc c;omega
 subst d;exact aS<|Sd aC<|Zd aH<|aB<|Rt<|Qq
theorem Z1(l)(H)(b:(aP l).length<35184372088832):RC 94 [.pv (aU l)] (sv (wA l)) H:=by refine Pu ?_;exact Bd func94 rfl ntmps94<|Sz aH<|Sd aC<|Dd (bL rfl rfl call130 rfl (Ch l _ b))<|Zd aH<|aB<|Rt<|Qq
theorem ny(a b c):(aP [a,b,c]).length=(qF a).size+(qF b).size+(qF c).size:=by simp[aP,qX];omega
theorem GQ(n:Nat)(h:n<1099511627776):(aY n).size<=21:=qJ (by omega) (by omega)
theorem oI{s}(h:s.size<1099511627776):(qF s).size<=s.size+22:=by have:=GQ _ h;rw[qY];omega
theorem lr(s:ByteArray)(i k:Nat)(H:aG)(b:s.size<1099511627776)(hi:i<1099511627776)(c:k<1099511627776):RC 96 [sv s,iv (i:Int),iv (k:Int)] (sv (nQ s i k)) H:=by
 refine Pu ?_;have h1:=GQ i hi;have h2:=GQ k c;have d:(aP [s,aY (i:Int),aY (k:Int)]).length<35184372088832:=by
  have e1:=oI b;have e2:=oI (s:=aY (i:Int)) (by omega);have e3:=oI (s:=aY (k:Int)) (by omega);rw[ny];omega
 exact Bd func96 rfl ntmps96<|Sz aH<|Sd aC<|Dd aC<|Dd (kc qR (vX (i:Int) (by omega) (by omega) _))<|Dd aC<|Dd (kc qR (vX (k:Int) (by omega) (by omega) _))<|Dd (by exact aN [[.str s],[.str (aY (i:Int))],[.str (aY (k:Int))]] rfl bT rfl rfl rfl rfl rfl (by simp_all))<|Dd (kc XR (Z1 _ _ d))<|Zd aH<|aB<|Rt<|Qq
theorem ng(a b:ByteArray)(d:Bool)(H:aG)(g:a.size<1099511627776)(f:b.size<1099511627776):RC 95 [sv a,sv b,bv d] (sv (if d=true then sC b a else sC a b)) H:=by
 refine Pu ?_;have h:∀x y:ByteArray,x.size<1099511627776->y.size<1099511627776->(aP [CT,x,y]).length<35184372088832:=by
  intro x y i j;have e1:=oI (s:=CT) (by decide);have e2:=oI i;have e3:=oI j;have e4:CT.size=4:=rfl;rw[ny];omega
 refine Bd func95 rfl ntmps95<|Sz aH<|Sq<|Sz aC ?_;refine Cn ?_ ?_<;>intro e
 ·subst e;exact Rd aC<|Dd aC<|Dd aH<|Zd aH<|Sd aC<|Dd aC<|Dd (by exact aN [[.str CT],[.str b],[.str a]] rfl bT rfl rfl rfl rfl rfl (by simp_all))<|Dd (kc XR (Z1 [CT,b,a] _ (h b a f g)))<|Zd aH<|aB<|Rt<|Qq
 subst e;exact aA<|Sd aC<|Dd aC<|Dd (by exact aN [[.str CT],[.str a],[.str b]] rfl bT rfl rfl rfl rfl rfl (by simp_all))<|Dd (kc XR (Z1 [CT,a,b] _ (h a b g f)))<|Zd aH<|aB<|Rt<|Qq
def UP(s:ByteArray)(i k:Nat):List ByteArray:=(List.range k).map fun k=>yS (nQ s i k) 15
theorem jb(s)(i k):UP s i (k+1)=UP s i k++[yS (nQ s i k) 15]:=by rw[UP,List.range_succ,List.map_append];rfl
theorem UO(s)(i k):(UP s i k).length=k:=by simp[UP]
theorem DG(s)(i k):(nQ s i k).size=16:=gP _
theorem B7{b}(a:b<1099511627776):∀(l),(∀s∈l,s.size<=b)->(aP l).length<=(b+22)*l.length
 | [],_=>aCl _
 |s::r,h=>by
  have ih:=B7 a r (fun x c=>h x (List.mem_cons_of_mem _ c));have hs:=h s List.mem_cons_self;have e:aP (s::r)=(qF s).data.toList++aP r:=rfl;have h2:=oI (s:=s) (by omega);rw[e,aCg,aCh,qX,Nat.mul_add];omega
theorem um(t)(H)(a:t.size<1099511627776):RC 93 [sv t,iv 15] (sv (yS t 15)) H:=XG t _ H a (by simp)
theorem Ui(s:ByteArray)(i:Nat)(H:aG)(g:s.size<1099511627776)(hi:i<1099511627776):RC 136 [sv s,iv (i:Int)] (sv (SC s i)) H:=by
 refine Pu ?_;refine Bd func136 rfl ntmps136<|Sz aH<|Sz (by exact fF (id:=905) (sz:=1) (ty:=9) rfl rfl rfl)<|Sq<|Sz aC<|aE ?_;refine bJ (σ:=Nat) (fun k=>([(0,sv s),(1,iv (i:Int)),(5,.osl 905 k 0 k),(7,iv (k:Int))],[(905,⟨k,1,9,cH (UP s i k)⟩)])) (fun k=>k<=18) (fun k=>18 - k) 0 (aCw _) ?_ ?_
 ·exact(cQ.wk (Eb<|Eb<|Ea<|Eb<|trivial) (Hc (bQ _ _)<|trivial) trivial)
 intro k hk;have d:=UO s i k;have e:=jb s i k;refine Sz cJ<|Sq ?_;refine Cn ?_ ?_<;>intro b
 ·have hlt:k<18:=by have:=aCb b;omega
  refine aA<|Sq<|aE<|Sd aC<|Zd aH<|Rd aC<|Dd aC<|Dd aC<|Dd aC<|Dd (kc call96 (lr s i k _ g hi (by omega)))<|Dd (kc aCY (um (nQ s i k) _ (by rw[DG];decide)))<|Dd (by exact aN [[.str (yS (nQ s i k) 15)]] rfl bT rfl rfl rfl rfl rfl (by simp_all))<|Dd (by exact cG (ps:=[[.str (yS (nQ s i k) 15)]]) rfl bT zT rfl rfl rfl rfl rfl (by rw[fP,d]) rfl (by simp_all) (m:=1) rfl (by omega) rfl (jZ _ (yS (nQ s i k) 15)))<|Zd aH<|Rd kp<|Zd aC ?_;refine⟨k+1,by omega,by omega,?_⟩;dsimp only;rw[e];exact(cQ.wk (Eb<|Eb<|Ea<|Eb<|trivial) (Hc (bQ _ _)<|trivial) trivial)
 have c:k=18:=by have:=aCc b;omega
 subst c;refine aS<|Sq ?_;refine gC.ent (cQ.fz (id:=905) (E':=[(5,.pv (aU (IY s i)))]) (H':=[]) ((IY s i).map encStr) rfl (eO _)
  (by intro p f;simp only[aCr,aCv,or_false]at f;subst f;exact⟨_,rfl,.osl (by rfl)⟩) rfl trivial trivial) ?_
 exact Rd aC<|Dd (by exact bL rfl rfl XR rfl (Z1 (IY s i) _ (by have h:=B7 (b:=16) (by decide) (IY s i) (fun x j=>by obtain ⟨k,_,rfl⟩:=List.mem_map.1 j;exact Nat.le_of_eq (QT (DG s i k) 15));rw[show (IY s i).length=18 from UO s i 18]at h;omega)))<|Zd aH<|aB<|Rt<|Qq
end Go.Proofs.YtmdicgjnmfolfaaGreatDoor
namespace Go.Abs
variable{P:Program}{id p p2 N:Nat}
theorem km{x:Go.Loop}{k s:Code}{g:dC}{a W:AV}{K:aG}{Q:AV->aG->Prop}(E2:dC)(K2:aG)(S:x.state=.ready)(Z:x.pending=none)(hp:x.params=#[p,p2])(hN:x.tmps.size=N)(hxa:x.assign=k)(hxb:x.body=s)(hpN:Nat.blt p N=true)(E:Nat.blt p2 N=true)(hpp:Nat.beq p p2=false)
  (hok:yL k=true) (hok2:yL s=true)
  (h1:gC P ((id,LR x g)::K) N k (xV (fun E1 H1=>cQ ((id,LR x g)::K) E1 H1 E2 ((id,LR x g)::K2)) (fun _ _ _=>False)) ((p2,W)::(p,a)::g) ((id,LR x g)::K))
  (h2:gC P ((id,LR x g)::K) N s (Hd ((id,LR x g)::K) id x g Q) E2 ((id,LR (busy x) g)::K2)):G5 P id 0 [a,W] ((id,LR x g)::K) Q:=by
 subst hxa hxb;have hpN:p<N:=by simp_all
 have E:p2<N:=by simp_all
 have hpp:p≠p2:=fun e=>by simp_all
 intro I X w vs v hr hv hl hvs;obtain ⟨b,e1,V,e3,e4,e5⟩:=zg hr (gK _ _ _) hv;obtain ⟨u,z,rfl⟩:∃u z,vs=#[u,z]:=by
  match vs,hl with
  |⟨[u,z]⟩,_=>exact⟨u,z,rfl⟩
 have hu:=hvs 0 u a rfl rfl;have hu2:=hvs 1 z W rfl rfl;refine⟨b,x.fn,_,x.assign,x.body,V,run_yield e3 (by simp_all),?_⟩;refine roundIn_of_wpIn (F:=Fence.wide) trivial ?_;have hG:(⟨I,X,(id,LR x g)::K,w,[]⟩:Entry).H=(id,LR x g)::K:=rfl;have hst:St ⟨I,X,(id,LR x g)::K,w,[]⟩ N ((p2,W)::(p,a)::g) ((id,LR x g)::K) {tmps:=(x.params.zip #[u,z]).foldl (fun o (t,a)=>o.setIfInBounds t a) x.tmps,defers:=[]} w:=by
  have ht:(x.params.zip #[u,z]).foldl (fun o (t,a)=>o.setIfInBounds t a) x.tmps=(x.tmps.setIfInBounds p u).setIfInBounds p2 z:=by rw[hp];simp
  rw[ht];refine⟨sY.nil _ _ _,by simp[hN],I,X,hr,Step.refl _ _ _ _,fun t y m=>?_⟩;by_cases V:p2=t
  ·subst V;rw[dC.get_cons_same]at m;cases m;exact⟨z,by simp[hN,E],hu2⟩
  rw[dC.get_cons_other _ _ V]at m;by_cases e:p=t
  ·subst e;rw[dC.get_cons_same]at m;cases m;exact⟨u,by show ((x.tmps.setIfInBounds p u).setIfInBounds p2 z)[p]?=some u;rw[Array.getElem?_setIfInBounds_ne V];simp[hN,hpN],hu⟩
  rw[dC.get_cons_other _ _ e]at m;obtain ⟨i,hi⟩:=aDA.1 (iA m);obtain ⟨c,c1,c2⟩:=e5 i t y (by rw[aCz,hi];rfl) (by rw[aCz,hi];rfl);exact⟨c,by show ((x.tmps.setIfInBounds p u).setIfInBounds p2 z)[t]?=some c;rw[Array.getElem?_setIfInBounds_ne V,Array.getElem?_setIfInBounds_ne e];exact c1,c2⟩
 refine wpIn_mono (h1 _ hG _ w hst (some b) (.inr hok)) ?_;rintro e a1 w1 ⟨E1,H1,q,hs1⟩;cases e with
 | normal =>
  have L:=q _ hG N a1 w1 hs1;obtain ⟨I1,ι1,B,G,he1⟩:=L.rel;have J:=tB G (gK _ _ _) e1 (gK _ _ _);have hb1:=uD B (gK _ _ _) J;obtain ⟨k1,k2⟩:=B.setRec (y:=busy x) (H':=(id,LR (busy x) g)::K2) (gK _ _ _) J rfl (gK _ _ _) (fun j hj=>AY _ _ _ hj);refine⟨_,run_beginRound hb1 S,?_⟩;have hs3:St ⟨I,X,(id,LR x g)::K,w,[]⟩ N E2 ((id,LR (busy x) g)::K2) a1 (w1.putObj b (.loop (busy x))) :=
   ⟨L.defers.step B k2,L.size,I1,ι1,k1,G.trans k2,fun t y m=>let ⟨c,c1,c2⟩:=he1 t y m;⟨c,c1,c2.mono B k2⟩⟩
  refine wpIn_mono (h2 _ hG a1 _ hs3 (some b) (.inr hok2)) ?_;rintro e W w3 ⟨E3,H3,U,hs4⟩;have O:∀(h:Option Code) (y:Go.Loop) (A:aG),y={busy x with state:=if h.isNone then .ready else .done,pending:=h}->cQ ((id,LR x g)::K) E3 H3 [] ((id,LR (busy x) g)::A)->Q (.pv (.bool h.isNone)) ((id,LR y g)::A) ->
    ∃v w',(Instr.endRound b h).run P w3=.ok v w'/\∃r H' I' M v',Ending.returned v=.returned v'/\Q r H'/\VRel w' I' M H' v' r/\Rel I' M H' w'/\Step I X ((id,LR x g)::K) w I' M H' w':=by
   intro h y A m f T;have hs5:=f _ hG N W w3 hs4;obtain ⟨I5,ι5,Y,F,_⟩:=hs5.rel;have D:=tB F (gK _ _ _) e1 (gK _ _ _);have hb5:=uD Y (gK _ _ _) D;obtain ⟨z1,z2⟩:=Y.setRec (y:=y) (H':=(id,LR y g)::A) (gK _ _ _) D (by rw[m]) (gK _ _ _) (fun j hj=>AY _ _ _ hj);refine⟨_,_,run_endRound h hb5,_,_,I5,ι5,_,rfl,T,.pv (.bool _),?_,?_⟩
   ·rw[<-m];exact z1
   rw[<-m];exact F.trans z2
  cases e with
  |normal =>
   obtain ⟨A,f,T⟩:=U;refine O none x A ?_ f T;obtain ⟨st,pe,fn,tm,pa,ax,bo,de⟩:=x;simp only at S Z;subst S Z;rfl
  |ret =>
   obtain ⟨A,f,T⟩:=U;exact O (some .ret) (left x .ret) A rfl f T
  |exit j =>
   obtain ⟨A,f,T⟩:=U;exact O (some (.exit j)) (left x (.exit j)) A rfl f T
  |goto l=>exact U.elim
  |panic ch=>exact U.elim
  |outgrown=>exact U.elim
 |exit j=>exact q.elim
 |goto l=>exact q.elim
 |ret=>exact q.elim
 |panic ch=>exact q.elim
 |outgrown=>exact q.elim
theorem RA{G0:aG}{f:Nat}{M:List AV}{g:Operand}{ps:Array Tmp}{assign body:Code}{Q:Exit->dC->aG->Prop}{E:dC}{H:aG}(n:dC)(hg:aO E g=some (.clo f M))(hc:∀(args:Array Value) (w:World),(callFunc f args).run P w=.ok (.enter f args) w)
  (hps:ps=#[p,p2]) (hid:H.get id=none) (hE0:∀q∈n,E.get q.1=some q.2)
  (h:∀x:Go.Loop,x.state=.ready->x.pending=none->x.params=#[p,p2]->x.tmps.size=N->x.assign=assign->x.body=body ->
   aW P f (.yld id 0::M) ((id,LR x n)::H) (fun r H'=>∃(y:Go.Loop) (K:aG),y.tmps=x.tmps/\y.state≠.busy/\H'=(id,LR y n)::K/\∀z:Go.Loop,Hh Q E ((id,LR z n)::K) y.pending)) :
  gC P G0 N (.rangeFunc g ps assign body) Q E H:=by
 intro G hG a w hs ro hro;obtain rfl:ro=none:=hro.resolve_right (fun h=>by cases h);obtain ⟨I,ι,hr,hst,he⟩:=hs.rel;refine wpIn_rangeFunc (F:=RF none) ?_;intro fn _;have hgv:=aI he hg;generalize hfc:a.eval g=fc at hgv;cases hgv with
 | @clo _ us _ hl hh =>
  obtain ⟨x,R⟩:∃x:Go.Loop,x={state:=.ready,pending:=none,fn,tmps:=a.tmps,params:=ps,assign,body,defers:=w.heap.size}:=⟨_,rfl⟩;obtain ⟨a1,a2⟩:=hr.push (.deferred (some []));obtain ⟨X,V⟩:∃X,X=w.alloc (.deferred (some [])):=⟨_,rfl⟩;rw[<-V]at a1 a2;have L:X.heap.size=w.heap.size+1:=by simp_all
  have hDd:X.heap[w.heap.size]?=some (.deferred (some [])):=by rw[V];exact World.alloc_heap_new w _
  have m:aG.get ((id,LR x n)::H) id=some (LR x n):=gK _ _ _;obtain ⟨b1,b2⟩:=a1.placeX (id:=id) (cap:=2) (x:=.loop x) (w':=X.alloc (.loop x)) (H':=(id,LR x n)::H) (ob':=LR x n) rfl rfl rfl rfl (fun o ho=>by simp_all)
   (fun hnew hI hmono=>.inr (.inr (.inr ⟨rfl,_,x,by simp,hnew,hI,fun y ts r hy=>by
    simp only[LR,List.cons.injEq,AV.raw.injEq,and_true]at hy;obtain ⟨⟨rfl,rfl⟩,rfl⟩:=hy;refine⟨rfl,fun i t v ht u=>?_⟩;rw[aCz]at ht u;obtain ⟨q,hq,rfl⟩:=Option.map_eq_some_iff.1 ht;rw[hq]at u;cases u;obtain ⟨c,c1,c2⟩:=he q.1 q.2 (hE0 q (aCp hq));exact⟨c,by rw[R];exact c1,hmono _ _ (c2.mono hr a2)⟩⟩)))
   m (fun j hj=>by simp[aG.get,kV (Ne.symm hj)])
  obtain ⟨T,hw1⟩:∃T,T=X.alloc (.loop x):=⟨_,rfl⟩;rw[<-hw1]at b1 b2;obtain ⟨B,U⟩:∃B:lR,B=fun j=>if j=id then some (X.heap.size,2)else ι j:=⟨_,rfl⟩
  rw[<-U]at b1 b2;have d:B id=some (w.heap.size+1,2):=by rw[U,L];simp
  have hL1:=uD b1 m d;have W:T.heap[w.heap.size]?=some (.deferred (some [])):=by
   rw[b2.keep _ (by rw[L];omega) (AG a1 hDd)];exact hDd
  have Z:=h x (by rw[R]) (by rw[R]) (by rw[R,hps]) (by rw[R];exact hs.size) (by rw[R]) (by rw[R]) I B T (#[.func (.yield (w.heap.size+1)) #[] #[]]++us) b1 (by simp[hl];omega) (fun i v c u F=>by
   cases i with
   |zero =>
    rw[Array.getElem?_append_left (by simp)]at u;simp at u F;subst u F;exact .yld (LR x n) m (aCl _) rfl (fun _=>⟨rfl,_,d,rfl⟩)
   |succ i =>
    rw[Array.getElem?_append_right (by simp)]at u;simp only[List.getElem?_cons_succ]at F;have:=hh i v c (by simpa using u) F;exact(this.mono hr a2).mono a1 b2)
  refine⟨w.heap.size+1,[mark w.heap.size],T,{target:=.fn (.func f) us,args:=#[.func (.yield (w.heap.size+1)) #[] #[]]},T,f,#[.func (.yield (w.heap.size+1)) #[] #[]]++us,T,?_,?_,fun _ _=>trivial,?_,(fun q=>by cases q),?_⟩
  ·rw[hw1,V,R];exact run_enterLoop_outer _ _ _ _ _
  ·simp only[resolve,hfc];simp[go_sem]
  ·simp[invoke,go_sem,hc]
  refine((callsIn_wide (n:=0)).2 Z).mono ?_;rintro e w3 ⟨r,H',I3,ι3,v3,rfl,⟨y,K,hy1,hy2,rfl,hq⟩,_,hr3,A⟩;have O:=tB (G:=⟨I,B,(id,LR x n)::H,T,[]⟩) A m d (gK _ _ _);have hb3:=uD hr3 (gK _ _ _) O;obtain ⟨z,hz⟩:∃z:Go.Loop,z={y with state:=.exhausted}:=⟨_,rfl⟩;obtain ⟨z1,z2⟩:=hr3.setRec (y:=z) (H':=(id,LR z n)::K) (gK _ _ _) O (by rw[hz]) (gK _ _ _) (fun j hj=>AY _ _ _ hj);obtain ⟨w4,hw4⟩:∃w4,w4=w3.putObj (w.heap.size+1) (.loop z):=⟨_,rfl⟩;rw[<-hw4]at z1 z2;refine⟨y.pending,w4,by rw[hw4,hz];exact run_endLoop hb3 hy2,?_⟩;have s:Step I ι H w I3 ι3 ((id,LR z n)::K) w4:=((a2.trans b2).trans A).trans z2;have hD4:w4.heap[w.heap.size]?=some (.deferred (some [])):=by
   rw[(A.trans z2).keep _ (Array.getElem?_eq_some_iff.1 W).1 (AG b1 W)];exact W
  have Y : St G N E ((id, LR z n) :: K) { a with defers := [mark w.heap.size] ++ a.defers } w4 := by
   refine⟨?_,hs.size,I3,ι3,z1,hst.trans s,fun t v u=>let ⟨c,c1,c2⟩:=he t v u;⟨c,c1,c2.mono hr s⟩⟩;obtain ⟨Ds,d1,d2,d3⟩:=hs.defers.step hr s;refine⟨w.heap.size::Ds,by rw[d1];rfl,List.nodup_cons.2 ⟨fun hmem=>?_,d2⟩,fun D hD=>?_⟩
   ·have hold:∀D∈Ds,D<w.heap.size:=by
     obtain ⟨Ds',d1',_,d3'⟩:=hs.defers;have he:Ds'=Ds:=by
      have h0:Ds'.map mark=Ds.map mark:=List.append_cancel_right (d1'.symm.trans d1);have hinj:∀(l J:List Nat),l.map mark=J.map mark->l=J:=by
       intro l
       induction l with
       |nil=>intro J h;cases J with
        |nil=>rfl
        |cons _ _=>cases h
       | cons D l ih=>intro J h;cases J with
        |nil=>cases h
        |cons D' J =>
         simp only[List.map_cons,List.cons.injEq,mark,Deferred.mk.injEq,Target.collected.injEq,and_true]at h;rw[h.1,ih J h.2]
      exact hinj _ _ h0
     subst he;exact fun D hD=>(Array.getElem?_eq_some_iff.1 (d3' D hD).2).1
    exact Nat.lt_irrefl _ (hold _ hmem)
   rcases aCr.1 hD with rfl|hD
   ·exact⟨hst.size,hD4⟩
   exact d3 D hD
  have b:=hq z;generalize y.pending=pend at b |-
  match pend,b with
  |none,b=>exact⟨E,_,b,Y⟩
  |some .ret,b=>exact wpIn_ret ⟨E,_,b,Y⟩
  |some (.exit j),b=>exact wpIn_exit ⟨E,_,b,Y⟩
end Go.Abs
namespace Go.Proofs.YtmdicgjnmfolfaaGreatDoor
open Go.Proofs.Tryz
open Go.Abs
theorem iS(l:List _):∀r∈l.map encStr,r.length=1:=fun r a=>by
 obtain ⟨t,_,rfl⟩:=List.mem_map.1 a;rfl
def Vn(l:List ByteArray):Ob:=bx 1 22 [.pv (aU l)]
def Vo:Ob:=bx 1 3 [iv 2]
theorem Fe(l)(H)(d:H.get 931=none)(e:H.get 932=none):
  aW Tryz.prog 137 [.pv (aU l),iv 2] H (fun r H'=>r=.clo 178 [.ref 931 0 0 0,.ref 932 0 0 0]/\H'=(932,Vo)::(931,Vn l)::H):=by
 have b:=e;refine Bd func137 rfl ntmps137<|Sd (rW rfl rfl rfl rfl d)<|Dd (rW (id:=932) rfl rfl rfl rfl b)<|Zd aH<|Sq<|Sd (bD isAgg3)<|Zd cJ ?_;refine Cn ?_ ?_<;>intro c
 ·cases c
 refine aA<|Sd (hU rfl rfl)<|Zd aH<|aB ?_;refine dA (.inr rfl) rfl (aJ rfl) Fin.refl ?_;exact Qq
def DL(l:List ByteArray)(k:Nat):List ByteArray:=(l.drop (2*k)).take 2
theorem sf(l)(k):((l.map encStr).drop (2*k)).take 2=(DL l k).map encStr:=by rw[DL,List.map_take,List.map_drop]
theorem aAo{n:Nat}(h:2<=n):min (2:Int) n=2:=Int.min_eq_left (by omega)
theorem uk(l:List ByteArray)(h:AV)(c:Nat->aG)(m:Nat)(hl:l.length=2*m)(hm:m<1099511627776)(i:∀k,(c k).get 931=some (Vn l))(o:∀k,(c k).get 932=some Vo)
  (p:∀k,k<m->dI Tryz.prog h [.pv (aU (DL l k))] (c k) (fun r H'=>r=bv true/\H'=c (k+1))) :
  aW Tryz.prog 178 [h,.ref 931 0 0 0,.ref 932 0 0 0] (c 0) (fun r H'=>r=.tup []/\H'=c m):=by
 have hml:(l.map encStr).length=l.length:=aCf _;refine Bd func178 rfl ntmps178<|Sz aH<|aE ?_;refine bJ (σ:=Nat) (fun k=>([(0,h),(1,.ref 931 0 0 0),(2,.ref 932 0 0 0),(4,iv ((2*k:Nat):Int))],c k)) (fun k=>k<=m) (fun k=>m - k) 0 (aCw _) ?_ ?_
 ·exact E0
 rintro k hkm;refine Sq<|Sd aC<|Dd (by exact bA rfl aF rfl (i k) rfl rfl rfl)<|Dd (eR aD)<|Zd cJ ?_;refine Cn ?_ ?_<;>intro e
 ·have hlt:2*k<l.length:=by have:=aCb e;omega
  have d:k<m:=by omega
  have j:=p k d;have hdl:((l.map encStr).drop (2*k)).length=l.length - 2*k:=by simp_all
  refine aA<|Sq<|aE<|Sq<|aL follows<|Cq (by exact bA rfl isAgg3 rfl (o k) rfl rfl rfl)<|Cq (by exact bA rfl aF rfl (i k) rfl rfl rfl)<|Cq aC<|Cq (by exact mU (l:=2*k) (h:=(l.map encStr).length) (rows':=(l.map encStr).drop (2*k)) rfl bT rfl (iS l) rfl rfl (by omega) (aCl _) (by grind))<|Cq (eR aD)<|Cq (by exact BZ (r:=2) rfl rfl rfl (by omega))<|Cq aH<|bF<|Kr<|Sd aC<|Dd (by exact bA rfl aF rfl (i k) rfl rfl rfl)<|Dd aC<|Dd aC<|Dd aC<|Dd (by exact eA rfl rfl rfl (show IntKind.i64.wrap (((2*k:Nat):Int)+2)=((2*k+2:Nat):Int)by rw[IntKind.wrap_i64];omega))<|Dd aC<|Dd aC<|Dd (by exact eA rfl rfl rfl (show IntKind.i64.wrap (((2*k:Nat):Int)+2)=((2*k+2:Nat):Int)by rw[IntKind.wrap_i64];omega)) ?_;refine Dd (by exact xa (l:=2*k) (h:=2*k+2) (rows':=(DL l k).map encStr) rfl bT rfl (iS l) rfl rfl rfl (by omega) (by omega) (by grind) (by rw[<-sf,List.drop_take];simp_all))<|Dd (by exact cW rfl rfl rfl (j))<|Zd iJ ?_;refine Cn ?_ ?_<;>intro g
  ·cases g
  refine aA<|Rd aC<|Dd (by exact bA rfl isAgg3 rfl (o (k+1)) rfl rfl rfl)<|Dd (by exact eA rfl rfl rfl (show IntKind.i64.wrap (((2*k:Nat):Int)+2)=((2*(k+1):Nat):Int)by rw[IntKind.wrap_i64];omega))<|Da ?_;exact⟨k+1,d,by omega,E0⟩
 have hge:l.length<=2*k:=by have:=aCc e;omega
 have n:k=m:=by omega
 refine aS ?_;rw[<-n];exact uP (H':=c k) (.inl rfl) rfl Fin.refl ⟨rfl,rfl⟩
end Go.Proofs.YtmdicgjnmfolfaaGreatDoor
namespace Go.Abs
theorem eV{P}{G0}{N}{Q}{E}{H}{x y}{α:Type}(S:α->dC×aG)(J:α->Prop)
  (h:gC P G0 N x (xV (fun b H1=>∃a,J a/\cQ G0 b H1 (S a).1 (S a).2) Q) E H) (d:∀a,J a->gC P G0 N y Q (S a).1 (S a).2):gC P G0 N (.seq x y) Q E H :=
 JB (h.mono fun e b H1 q=>by
  cases e with
  |normal =>
   obtain ⟨a,c,f⟩:=q;exact gC.ent f (d a c)
  |_=>exact q)
theorem AZ{i}{o}{K:aG}:∀(D:aG),(∀p∈D,p.1=i)->∀j,aG.get ((i,o)::K) j=aG.get ((i,o)::(D++K)) j:=by
 intro D b j;by_cases e:i=j
 ·subst e;simp[aG.get,pQ]
 have h:aG.get D j=none:=by
  cases a:aG.get D j with
  |none=>rfl
  |some x=>exact absurd (b _ (dY a)).symm e
 rw[get_cons_other _ _ (Ne.symm e),get_cons_other _ _ (Ne.symm e),gJ,h]
theorem mL{H}{x}{c}(h:∀p∈c,Clo H p.2):∀r∈(LR x c).rows,∀a∈r,Clo H a:=by
 intro r d a b;simp[LR,aCr,aCv,or_false]at d;rcases d with rfl|rfl
 ·rw[aCi]at b;subst b;simp
 obtain ⟨p,e,rfl⟩:=List.mem_map.1 b;exact h p e
end Go.Abs
namespace Go.Proofs.YtmdicgjnmfolfaaGreatDoor
open Go.Proofs.Tryz
open Go.Abs
theorem ft{W}{j}(h:2*j+2<=W.length):((DL W j).map encStr)[0]?=some (encStr (W.getD (2*j) sNil))/\((DL W j).map encStr)[1]?=some (encStr (W.getD (2*j+1) sNil)):=by
 have h0:(DL W j)[0]?=some (W.getD (2*j) sNil):=by
  rw[DL,List.getElem?_take_of_lt (by simp),List.getElem?_drop,Nat.add_zero,List.getD_eq_getElem?_getD,aCk (by omega)];rfl
 have h1:(DL W j)[1]?=some (W.getD (2*j+1) sNil):=by
  rw[DL,List.getElem?_take_of_lt (by simp),List.getElem?_drop,List.getD_eq_getElem?_getD,aCk (by omega)];rfl
 exact⟨by simp_all,by simp_all⟩
def Vy(l:List ByteArray)(j:Nat):ByteArray:=sC (l.getD (2*j) sNil) (l.getD (2*j+1) sNil)
def lf(l:List ByteArray)(k:Nat):List ByteArray:=(List.range k).map (Vy l)
theorem xj(l)(k):lf l (k+1)=lf l k++[Vy l k]:=by rw[lf,List.range_succ,List.map_append];rfl
theorem ld(l)(k):(lf l k).length=k:=by simp[lf]
theorem It{l}{m}(h:l.length=2*m):lf l m=cu l:=by
 apply List.ext_getElem?;intro k;have hl:=EH m l h;by_cases a:k<m
 ·have:=VG m l k h a;rw[List.getD_eq_getElem?_getD,aCk _]at this;rw[lf,aCz,List.getElem?_range a,aCk (by omega)];exact congrArg _ this.symm
 rw[List.getElem?_eq_none (by rw[ld];omega),List.getElem?_eq_none (by omega)]
def Xn(l L:List ByteArray):aG:=[(905,⟨L.length,1,9,cH L⟩),(3,bx 1 22 [.osl 905 L.length 0 L.length]),(932,Vo),(931,Vn l)]
theorem Iu(l L)(s):Xn l (L++[s])=[(905,⟨L.length+1,1,9,cH (L++[s])⟩),(3,bx 1 22 [.osl 905 (L.length+1) 0 (L.length+1)]),(932,Vo),(931,Vn l)]:=by simp[Xn]
def Xo:dC:=[(3,.ref 3 0 0 0)]
theorem XI(H)(l):∀r∈(Vn l).rows,∀a∈r,Clo H a:=by intro r c a b;simp[Vn,bx,aCi]at c;subst c;rw[aCi]at b;subst b;simp
theorem XJ(H):∀r∈Vo.rows,∀a∈r,Clo H a:=by intro r c a b;simp[Vo,bx,aCi]at c;subst c;rw[aCi]at b;subst b;simp
theorem pt(l:List ByteArray)(m:Nat)(H:aG)(w:l.length=2*m)(C:m<1099511627776)(hs:∀s∈l,s.size=16):RC 87 [.pv (aU l)] (.pv (aU (cu l))) H:=by
 refine Pu ?_;refine Bd func87 rfl ntmps87<|Sz aH<|Sz (kl 3 wg)<|Sq<|Sd aC<|Zd (kc call137 (Fe l _ rfl rfl))<|aE ?_;refine gC.ent (E':=[(3,.ref 3 0 0 0),(6,.clo 178 [.ref 931 0 0 0,.ref 932 0 0 0])]) (H':=Xn l []) ?_ ?_
 ·exact(cQ.nz 905 1 9 rfl rfl ⟨⟨_,rfl,(by exact Nz.same (by(simp;rfl)))⟩,⟨_,rfl,(by exact Nz.same (by(simp;exact⟨rfl,rfl⟩)))⟩,trivial⟩ ⟨⟨_,rfl,rfl,rfl,rfl,(by exact .inr ⟨_,_,rfl,rfl,(by repeat(first|exact trivial|refine⟨(by exact Nz.own),?_⟩))⟩)⟩,⟨_,rfl,rfl,rfl,rfl,(by exact .inl ⟨rfl,(by exact XJ _)⟩)⟩,⟨_,rfl,rfl,rfl,rfl,(by exact .inl ⟨rfl,(by exact XI _ _)⟩)⟩,trivial⟩ trivial)
 refine FA (id:=904) (p:=7) Xo rfl call178 rfl rfl (by simp[Xo];rfl) ?_;intro x o g v u q t;refine(uk l (.yld 904 0) (fun k=>(904,LR x Xo)::Xn l (lf l k)) m w C (fun k=>rfl) (fun k=>rfl) ?_).mono ?_
 ·intro k hk;have B:∀j,j<l.length->(l.getD j sNil).size<1099511627776:=fun j hj=>by simp_all
  have i:=fun H=>ng (l.getD (2*k) sNil) (l.getD (2*k+1) sNil) false H (B _ (by omega)) (B _ (by omega));simp only[Bool.false_eq_true,if_false]at i;obtain ⟨y,A⟩:=ft (W:=l) (j:=k) (by omega);have hfl:=ld l k;refine .inl ⟨904,0,rfl,?_⟩;refine VB [(3,.ref 3 0 0 0),(4,.pv (aU (DL l k)))] (Xn l (lf l k)) o g v u q t rfl rfl rfl ?_ ?_
  ·refine Rg<|Da ?_;exact(cQ.wk (Ea<|Eb<|trivial) (Hc (mL (by intro p d;simp only[Xo,aCr,aCv,or_false]at d;subst d;simp only[wB];rfl))<|Hc (bQ _ _)<|Ha<|Hc (XJ _)<|Hc (XI _ _)<|trivial) ⟨rfl,rfl,rfl,rfl,rfl,trivial⟩)
  rw[xj,Iu];refine aE<|aL follows<|Cr [3] (fun _ h=>lh aF h)<|Cr [] (fun _ _=>aC)<|Cr [] (fun n e=>by exact bP rfl bT rfl rfl (by omega) (by rfl) y rfl)<|Cr [] (fun _ _=>(fO isAgg9 (hi:=y)))<|Cr [] (fun _ _=>aC)<|Cr [] (fun n e=>by exact bP rfl bT rfl rfl (by omega) (by rfl) A rfl)<|Cr [] (fun _ _=>(fO isAgg9 (hi:=A)))<|Cr [] (fun n e=>by exact bL rfl rfl call95 rfl (i _))<|Cr [] (fun n e=>by exact aN [[.str (Vy l k)]] rfl bT rfl rfl rfl rfl rfl (by simp_all))<|Cp [905] (fun n e=>by exact cG (ps:=[[.str (Vy l k)]]) rfl bT zT rfl ((e _ rfl).trans rfl) rfl rfl rfl (fP _) rfl (by simp_all) (m:=1) rfl (by omega) rfl (jZ (lf l k) (Vy l k))) ?_;refine Cp [3] (fun _ h=>sa sizeOf22 h)<|bF<|Kr ?_;exact⟨[(905,⟨(lf l k).length+1,1,9,cH (lf l k++[Vy l k])⟩),(3,bx 1 22 [.osl 905 ((lf l k).length+1) 0 ((lf l k).length+1)]),(932,Vo),(931,Vn l)],(cQ.wk trivial (Hc (mL (by intro p d;simp only[Xo,aCr,aCv,or_false]at d;subst d;simp only[wB];rfl))<|Hc (bQ _ _)<|Ha<|Hc (XJ _)<|Hc (XI _ _)<|trivial) ⟨rfl,rfl,rfl,rfl,rfl,trivial⟩),rfl,rfl⟩
 rintro r H' ⟨rfl,rfl⟩;refine⟨x,_,rfl,by simp_all,rfl,fun z=>?_⟩;rw[g,It w];obtain ⟨c,f⟩:∃c,c=cu l:=⟨_,rfl⟩;rw[<-f];have hol:(c.map encStr).length=c.length:=aCf _;refine gC.ent (cQ.fzG (id:=905) (E':=[(3,.ref 3 0 0 0)]) (H':=[(3,bx 1 22 [.pv (aU c)])]) (c.map encStr) rfl (eO _) ?_ rfl ?_ ?_) ?_
 ·intro p d;simp only[aCr,aCv,or_false]at d;rcases d with rfl;exact⟨_,rfl,.same (by simp;rfl)⟩
 ·refine⟨⟨_,rfl,rfl,rfl,rfl,nB rfl (cA (.osl ?_) mD)⟩,trivial⟩
  grind
 ·exact trivial
 exact Sd (bD aF)<|Zd aH<|aB<|Rt<|Qq
end Go.Proofs.YtmdicgjnmfolfaaGreatDoor
