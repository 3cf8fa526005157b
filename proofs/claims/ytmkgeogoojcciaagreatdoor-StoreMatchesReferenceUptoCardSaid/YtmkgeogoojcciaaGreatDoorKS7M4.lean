/-
  Parts of the proof: rules of an abstract program logic, contracts of functions, plain laws. Conditions: each theorem's own.
-/
import Derived.Test.YtmkgeogoojcciaaGreatDoorKS7M3
import Derived.Shelf.LaysM
import Derived.Shelf.Lays
import Derived.Ground.NamesProg
import Derived.Laws.Bits64b
import Derived.Lib.AppendStr
import Derived.Scope
import Derived.Lib.UnsafeStr
import Derived.Lib.MakeNoZero
import Derived.Lib.Builder
import Derived.Lib.Overlaps
import Derived.WalkSpells
import Derived.Lib.SliceRun
set_option linter.unusedVariables false
set_option linter.unusedSimpArgs false
set_option maxRecDepth 100000
set_option maxHeartbeats 8000000
namespace Go.Proofs
theorem aHK:type_of% Tryz.call166:=Tryz.call166
theorem RD:type_of% Tryz.isAgg136:=Tryz.isAgg136
theorem bJ:type_of% Tryz.isAgg31:=Tryz.isAgg31
theorem NV:type_of% Tryz.sizeOf197:=Tryz.sizeOf197
theorem mJ:type_of% Tryz.underlying136:=Tryz.underlying136
theorem AK:type_of% Tryz.underlying158:=Tryz.underlying158
theorem TQ:type_of% Tryz.underlying179:=Tryz.underlying179
theorem rI:type_of% Tryz.underlying197:=Tryz.underlying197
end Go.Proofs
namespace Go.Abs
section
section
variable {P:Program} {G0:aE} {N:Nat} {E:bZ} {H:aE} {ops:Array Oper} {K:bZ→aE→Prop} {o:Oper} {rest:List Oper}
def ALx (P:Program) (G0:aE) (N:Nat) (ops:Array Oper) (K:bZ→aE→Prop) (l:List Oper) (E:bZ) (H:aE) (d:Nat) (F:eE→Value→Prop):Prop :=∀ G:Entry,G.H=G0→∀ (a:Act) (w:World) (I:Nat→Prop) (ι:eE),xC G.w w a.defers→a.tmps.size=N→Rel I ι H w→Step G.I G.ι G.H G.w I ι H w→jE w I ι H E a→(∃ c,a.tmps[d]?=some c∧F ι c) →
  ∀ ro,(ro=none∨l.all Oper.noDefer=true)→∀ Q:Exit→Act→World→Prop,(∀ E H a w,K E H→St G N E H a w→Q .normal a w)→wpListIn (RF ro) 0 P ops Q l a w
def aF8 (id n:Nat) (ι:eE) (c:Value):Prop:=∃ b cap,ι id=some (b,cap)∧c=.slice (some ⟨b,0,none⟩) n n
theorem A5 (a:Act) (d:Nat) (c:Value):(a.put (some d) c).tmps.size=a.tmps.size:=by simp [Act.put]
theorem aA5 (a:Act) {d:Nat} (c:Value) (h:d < a.tmps.size):(a.put (some d) c).tmps[d]?=some c:=by simp [Act.put,h]
theorem W2 (a:Act) {d d2:Nat} (c:Value) (h:d2≠d):(a.put (some d2) c).tmps[d]?=a.tmps[d]?:=by simp [Act.put,h]
theorem CA {T e:TypeId} {p:Operand} {d id g n:Nat} {ob:Ob} (hg0:o.guard=none) (hd:o.dst=some d) (hdN:Nat.blt d N=true) (ho:o.op=.slice T p none none none) (hT:P.underlying T=some (.array n e)) (hs:∀ w,(sizeOf e).run P w=.ok 1 w)
  (hx:aS E p=some (.ref id g 0 0)) (hH:H.get id=some ob) (hg:ob.g=g) (hk:ALx P G0 N ops K rest ((d,.any)::E) H d (aF8 id n)):AL P G0 N ops K (o::rest) E H:=by
 intro G hG a w hst ro hro Q hq;refine wpListIn_plain hg0 fun K' hK=>?_;refine Oper.wpW_in (kX hro).1 ?_;obtain ⟨I,ι,hr,hs',he⟩:=hst.rel;obtain ⟨b,cap,h1,h3⟩:=kY (aN he hx) hH hg;have hdn:d < N:=by simpa [Nat.blt_eq] using hdN
 have hrun:(execOp a.eval o).run P w=.ok (.value (.slice (some ⟨b,0,none⟩) n n)) w:=by
  simp only [execOp,ho,h3,Option.map_none];simp [Instr.sliceAt,run_underlying hT,Instr.sureAddr,Instr.sliceBounds,hs,Addr.add_lit]
 unfold Oper.wpW;rw [hrun];show K' (a.put o.dst _) w;rw [hd];exact hK _ _ (hk G hG _ w I ι (by rw [jO];exact hst.defers) (by rw [A5];exact hst.size) hr hs' (jE.put (d:=some d) hr (Step.refl _ _ _ _) he (.any _) (by rw [hst.size];exact hdN)) ⟨_,aA5 a _ (by rw [hst.size];exact hdn),b,cap,h1,rfl⟩ ro (kX hro).2 Q hq)
theorem aCL {d d2:Nat} {F:eE→Value→Prop} {x:Operand} {v:AV} (hg0:o.guard=none) (hd:o.dst=some d2) (hdN:Nat.blt d2 N=true) (hne:d2≠d) (ho:o.op=.move x) (hx:aS E x=some v) (hk:ALx P G0 N ops K rest ((d2,v)::E) H d F):ALx P G0 N ops K (o::rest) E H d F:=by
 intro G hG a w I ι hm hsz hr hs' he ⟨c,hc,hF⟩ ro hro Q hq;refine wpListIn_plain hg0 fun K' hK=>?_;refine Oper.wpW_in (kX hro).1 ?_;have hrun:(execOp a.eval o).run P w=.ok (.value (a.eval x)) w:=by simp [execOp,ho]
 unfold Oper.wpW;rw [hrun];show K' (a.put o.dst _) w;rw [hd];exact hK _ _ (hk G hG _ w I ι (by rw [jO];exact hm) (by rw [A5];exact hsz) hr hs' (jE.put (d:=some d2) hr (Step.refl _ _ _ _) he (aN he hx) (by rw [hsz];exact hdN)) ⟨c,by rw [W2 a _ hne];exact hc,hF⟩ ro (kX hro).2 Q hq)
def iC (s:List UInt8):List AV:=s.map fun b=>.pv (.int .u8 b.toNat)
theorem rF (s:List UInt8):(iC s).length=s.length:=aHr _
theorem NT {D S e:TypeId} {y:Operand} {d d2 id g n m T:Nat} {cells:List AV} {s:ByteArray} (hg0:o.guard=none) (hd:o.dst=some d2) (hdN:Nat.blt d2 N=true) (ho:o.op=.call {callee:=.builtin .copy,args:=#[.tmp d,y],argTypes:=#[D,S]}) (hD:P.underlying D=some (.slice e)) (hs:∀ w,(sizeOf e).run P w=.ok 1 w)
  (hH:H.get id=some ⟨g,n,T,[cells]⟩) (hn0:0 < n) (hy:aS E y=some (.pv (.str s))) (hm:min s.size n=m)
  (hk:AL P G0 N ops K rest ((d2,.pv (.int .i64 m))::E) ((id,⟨g,n,T,[iC (s.data.toList.take m)++cells.drop m]⟩)::H)):ALx P G0 N ops K (o::rest) E H d (aF8 id n):=by
 intro G hG a w I ι hmk hsz hr hs' he ⟨c,hc,b,cap,hι,hcv⟩ ro hro Q hq;refine wpListIn_plain hg0 fun K' hK=>?_;refine Oper.wpW_in (kX hro).1 ?_;have e2y:=(aN he hy).str_inv;have e1:a.eval (.tmp d)=.slice (some ⟨b,0,none⟩) n n:=by simp [Act.eval,hc,hcv]
 obtain ⟨p1,p2,⟨b',cap',cs,f1,f2,f3,f4,f5,f5',f6⟩|⟨f1,_⟩⟩:=(hr.obj id _ hH).cells hn0
 rotate_left
 ·rw [hι] at f1;cases f1
 rw [hι] at f1;cases f1;have hlen:cells.length=n:=p2 cells (by simp);have hms:m≤s.size:=by omega
 have hmn:m≤n:=by omega
 simp only [List.length_singleton] at f5;have hcs:n≤cs.size:=by rw [f4];exact Nat.le_mul_of_pos_left _ (by omega)
 have hmm:min m s.data.size=m:=by have:s.data.size=s.size:=rfl;omega
 have hcells:((s.extract 0 m).data.map fun b=>Value.int .u8 b.toNat).toList=(s.data.toList.take m).map fun b=>Value.int .u8 b.toNat:=by simp
 have hst:=run_storeCells_at P b 0 T ((s.data.toList.take m).map fun b=>Value.int .u8 b.toNat) 0 cs w f2 (by simp [hmm];omega) (by intro v hv;obtain ⟨b,_,rfl⟩:=List.mem_map.1 hv;rfl);simp only [Nat.add_zero,aIJ,List.take_zero,List.nil_append,aHr,aIF,Array.length_toList] at hst;rw [hmm] at hst;have hnl:(iC (s.data.toList.take m)++cells.drop m).length=n:=by
  rw [aHs,rF,aIF,aIG,Array.length_toList,hmm,hlen];omega
 obtain ⟨k2,k3⟩:=Rel.update (H':=(id,⟨g,n,T,[iC (s.data.toList.take m)++cells.drop m]⟩)::H) (ob':=⟨g,n,T,[iC (s.data.toList.take m)++cells.drop m]⟩)
  (cs' := ((s.data.toList.take m).map (fun b => Value.int .u8 b.toNat) ++ cs.toList.drop m).toArray) hr hH hι f2 (aHx _) rfl rfl (fun _ => aHx _) (by
   simp only [List.size_toArray,aHs,aHr,aIF,aIG,Array.length_toList,hmm];rw [← f4];omega) (by simpa using f5) (by intro r hr';rw [aHu] at hr';subst hr';exact hnl) (fun i r hi k a' hk'=>by
    cases i with
    | succ i=>simp at hi
    | zero =>
     simp only [List.getElem?_cons_zero,Option.some.injEq] at hi;subst hi;rw [Nat.zero_mul,aIJ];simp only [List.getElem?_toArray];by_cases ck:k < m
     ·rw [List.getElem?_append_left (by rw [rF,aIF,Array.length_toList,hmm];exact ck),iC,aIL] at hk';rw [List.getElem?_append_left (by rw [aHr,aIF,Array.length_toList,hmm];exact ck),aIL];cases e:(s.data.toList.take m)[k]? with
      | none=>rw [e] at hk';cases hk'
      | some q =>
       rw [e] at hk';cases hk';exact⟨.int .u8 q.toNat,rfl,rfl,.pv (.int _ _)⟩
     rw [List.getElem?_append_right (by rw [rF,aIF,Array.length_toList,hmm];omega),rF,aIF,Array.length_toList,hmm,List.getElem?_drop,show m+(k - m)=k by omega] at hk';obtain ⟨u,q1,q2,q3⟩:=f6 0 cells rfl k a' hk';rw [Nat.zero_mul,aIJ] at q1;refine⟨u,?_,q2,q3⟩;rw [List.getElem?_append_right (by rw [aHr,aIF,Array.length_toList,hmm];omega),aHr,aIF,Array.length_toList,hmm,List.getElem?_drop,show m+(k - m)=k by omega]
     simpa using q1) (get_cons_same _ _ _) (fun j hj=>get_cons_other _ _ hj)
 have hmin:Nat.min s.size n=m:=hm;unfold Oper.wpW execOp;simp only [ho,resolve,invoke,builtin,Sem.run_bind,Sem.run_pure,Result.andThen_ok,List.map_toArray,List.map_cons,List.map_nil,e1,e2y,Builtin.copy_,run_underlying hD,hs];simp only [List.getElem?_toArray,List.getElem?_cons_zero,List.getElem?_cons_succ,run_underlying hD,Builtin.lenOf,Builtin.firstCells,Sem.run_bind,Sem.run_pure,Result.andThen_ok,hs,hmin,hcells,hst];show K' (a.put o.dst _) _;rw [hd];refine hK _ _ (hk G hG _ _ ⟨?_,?_,I,ι,k2,hs'.trans k3,jE.put (d:=some d2) hr k3 he (.pv (.int _ _)) (by rw [hsz];exact hdN)⟩ ro (kX hro).2 Q hq)
 ·rw [jO];exact hmk.step hr k3
 rw [A5];exact hsz
theorem aEO {S T e:TypeId} {d d2 id g n A:Nat} {bs:List UInt8} {r:ByteArray} (hg0:o.guard=none) (hd:o.dst=some d2) (hdN:Nat.blt d2 N=true) (ho:o.op=.convert S T (.tmp d)) (hS:P.underlying S=some (.slice e)) (he':P.underlying e=some (.int .u8)) (hT:P.underlying T=some .string)
  (hH:H.get id=some ⟨g,n,A,[iC bs]⟩) (hn0:0 < n) (hr':(⟨bs.toArray⟩:ByteArray)=r) (hk:AL P G0 N ops K rest ((d2,.pv (.str r))::E) H):ALx P G0 N ops K (o::rest) E H d (aF8 id n):=by
 intro G hG a w I ι hmk hsz hr hs' he ⟨c,hc,b,cap,hι,hcv⟩ ro hro Q hq;refine wpListIn_plain hg0 fun K' hK=>?_;refine Oper.wpW_in (kX hro).1 ?_;have e1:a.eval (.tmp d)=.slice (some ⟨b,0,none⟩) n n:=by simp [Act.eval,hc,hcv]
 obtain ⟨p1,p2,⟨b',cap',cs,f1,f2,f3,f4,f5,f5',f6⟩|⟨f1,_⟩⟩:=(hr.obj id _ hH).cells hn0
 rotate_left
 ·rw [hι] at f1;cases f1
 rw [hι] at f1;cases f1;have hlen:bs.length=n:=by rw [← rF bs];exact p2 (iC bs) (by simp)
 subst hr';have hl:(loadCells ⟨b,0,none⟩ n).run P w=.ok ((bs.map fun b=>(b.toNat:Int)).map (Value.int .u8)).toArray w:=by
  have h0:=run_loadCells_list (P:=P) w ⟨b,0,none⟩ ((bs.map fun b=>(b.toNat:Int)).map (Value.int .u8)) (fun j v hv=>by
   rw [List.map_map,aIL] at hv;obtain ⟨q,hq1,rfl⟩:=Option.map_eq_some_iff.1 hv;rw [Addr.add_lit,aIJ,cell_of_row w b _ cs _ (0,0) f2];obtain ⟨u,q1,q2,q3⟩:=f6 0 (iC bs) rfl j (.pv (.int .u8 q.toNat)) (by rw [iC,aIL,hq1];rfl);rw [Nat.zero_mul,aIJ] at q1;rw [q1,q3.int_inv];rfl)
  rwa [aHr,aHr,hlen] at h0
 have hrun:(execOp a.eval o).run P w=.ok (.value (.string ⟨bs.toArray⟩)) w:=by
  simp only [execOp,ho,e1,Sem.run_bind];rw [run_convert_bytes_string w S T e _ _ n hS he' hT,run_bytesToString w _ _ n _ hl,foldl_push_bytes];have e3:(bs.map fun b=>(b.toNat:Int)).map (fun n=>UInt8.ofNat n.toNat)=bs:=by
   rw [List.map_map]
   conv=>rhs;rw [← List.map_id bs]
   refine List.map_congr_left fun b _=>?_;simp
  rw [e3];simp [ByteArray.empty,ByteArray.emptyWithCapacity];rfl
 unfold Oper.wpW;rw [hrun];show K' (a.put o.dst _) w;rw [hd];exact hK _ _ (hk G hG _ w ⟨by rw [jO];exact hmk,by rw [A5];exact hsz,I,ι,hr,hs',jE.put (d:=some d2) hr (Step.refl _ _ _ _) he (.pv (.str _)) (by rw [hsz];exact hdN)⟩ ro (kX hro).2 Q hq)
end
end
end Go.Abs
section
namespace Go.Proofs
open Go.RowKit Go.Sort Go.Shelf
def aHd:Go.Shelf.Ren:=⟨fun|6=>96|8=>127|9=>126|19=>156|20=>157|21=>148|22=>149|23=>150|24=>151|25=>152|26=>153|27=>146|28=>154|29=>155|36=>173|31=>174|32=>175|37=>176|38=>177|39=>172|41=>190|n=>n,fun|27=>31|29=>9|3=>3|32=>150|26=>31|0=>0|44=>191|46=>93|4=>4|36=>184|35=>183|41=>188|5=>5|9=>9|53=>209|57=>213|63=>225|64=>226|n=>n,fun|n=>n⟩
theorem aHi:Go.Proofs.SlLaysM.n6 Tryz.prog aHd:={
  mixed:=by kernel_rfl
  f6:=⟨Tryz.f96.name,by decide,Tryz.func96.trans (congrArg some (by kernel_rfl))⟩
  f8:=Tryz.func127.trans (congrArg some (by kernel_rfl))
  f9:=⟨Tryz.f126.name,by decide,Tryz.func126.trans (congrArg some (by kernel_rfl))⟩
  f19:=Tryz.func156.trans (congrArg some (by kernel_rfl))
  f20:=Tryz.func157.trans (congrArg some (by kernel_rfl))
  f21:=⟨Tryz.f148.name,by decide,Tryz.func148.trans (congrArg some (by kernel_rfl))⟩
  f22:=⟨Tryz.f149.name,by decide,Tryz.func149.trans (congrArg some (by kernel_rfl))⟩
  f23:=⟨Tryz.f150.name,by decide,Tryz.func150.trans (congrArg some (by kernel_rfl))⟩
  f24:=⟨Tryz.f151.name,by decide,Tryz.func151.trans (congrArg some (by kernel_rfl))⟩
  f25:=⟨Tryz.f152.name,by decide,Tryz.func152.trans (congrArg some (by kernel_rfl))⟩
  f26:=⟨Tryz.f153.name,by decide,Tryz.func153.trans (congrArg some (by kernel_rfl))⟩
  f27:=⟨Tryz.f146.name,by decide,Tryz.func146.trans (congrArg some (by kernel_rfl))⟩
  f28:=⟨Tryz.f154.name,by decide,Tryz.func154.trans (congrArg some (by kernel_rfl))⟩
  f29:=⟨Tryz.f155.name,by decide,Tryz.func155.trans (congrArg some (by kernel_rfl))⟩
  f31:=Tryz.func174.trans (congrArg some (by kernel_rfl))
  f32:=Tryz.func175.trans (congrArg some (by kernel_rfl))
  f36:=⟨Tryz.f173.name,by decide,Tryz.func173.trans (congrArg some (by kernel_rfl))⟩
  f37:=⟨Tryz.f176.name,by decide,Tryz.func176.trans (congrArg some (by kernel_rfl))⟩
  f38:=⟨Tryz.f177.name,by decide,Tryz.func177.trans (congrArg some (by kernel_rfl))⟩
  f39:=⟨Tryz.f172.name,by decide,Tryz.func172.trans (congrArg some (by kernel_rfl))⟩
  f41:=⟨Tryz.f190.name,by decide,Tryz.func190.trans (congrArg some (by kernel_rfl))⟩
  t0:=EL
  a0:=aC5
  z0:=Y6
  v0:=ID
  t3:=cJ
  a3:=aL
  z3:=Tryz.sizeOf3
  v3:=qO
  t4:=lS
  a4:=cK
  z4:=Tryz.sizeOf4
  v4:=IC
  t5:=bV
  a5:=rM
  z5:=eL
  v5:=mZ
  t9:=aC
  a9:=aQ
  z9:=Tryz.sizeOf9
  v9:=gM
  t26:=aO
  a26:=bJ
  z26:=Tryz.sizeOf31
  v26:=aCR
  t27:=aO
  a27:=bJ
  z27:=Tryz.sizeOf31
  v27:=aCR
  t29:=aC
  a29:=aQ
  z29:=Tryz.sizeOf9
  v29:=gM
  t32:=iD
  a32:=DQ
  z32:=AN
  v32:=sL
  t35:=Tryz.underlying183
  a35:=Tryz.isAgg183
  z35:=Tryz.sizeOf183
  v35:=Tryz.zeroValue183
  t36:=Tryz.underlying184
  a36:=Tryz.isAgg184
  z36:=Tryz.sizeOf184
  v36:=Tryz.zeroValue184
  t41:=Tryz.underlying188
  a41:=Tryz.isAgg188
  z41:=Tryz.sizeOf188
  v41:=Tryz.zeroValue188
  t44:=AJ
  a44:=RC
  z44:=NW
  v44:=CF
  t46:=fQ
  a46:=sP
  z46:=qC
  v46:=pA
  t53:=Tryz.underlying209
  a53:=Tryz.isAgg209
  z53:=Tryz.sizeOf209
  v53:=Tryz.zeroValue209
  t57:=Tryz.underlying213
  a57:=Tryz.isAgg213
  z57:=Tryz.sizeOf213
  v57:=Tryz.zeroValue213
  t63:=Tryz.underlying225
  a63:=Tryz.isAgg225
  z63:=Tryz.sizeOf225
  v63:=Tryz.zeroValue225
  t64:=Tryz.underlying226
  a64:=Tryz.isAgg226
  z64:=Tryz.sizeOf226
  v64:=Tryz.zeroValue226}
end Go.Proofs
namespace Go.Proofs.YtmkgeogoojcciaaGreatDoor
open Go.Proofs.Tryz
open Go.Abs
theorem JM (ss:List ByteArray) {id g n ty:Nat} {H:aE} (hH:H.get id=some ⟨g,1,ty,fT ss⟩) (hn:n=ss.length) (hl:ss.length < 4611686018427387904) :
  aK Tryz.prog 96 [.osl id g 0 n] H (fun r H'=>r=.tup []∧H'=(id,⟨g,1,ty,fT (eZ ss)⟩)::H):=aEo aHi ss hH hn hl
theorem lW:∀ (n:Nat) (l:List Nat),l.Nodup→(∀ i∈l,i < n)→l.length≤n
 | 0,l,_,h=>by
  cases l with
  | nil=>simp
  | cons a l=>have:=h a (by simp);omega
 | n+1,l,hd,h=>by
  by_cases e:n∈l
  ·have h1:=lW n (l.erase n) (hd.erase n) (fun i hi=>by
    rw [hd.mem_erase_iff] at hi;have:=h i hi.2;omega)
   rw [List.length_erase_of_mem e] at h1;have:=List.length_pos_of_mem e;omega
  have:=lW n l hd (fun i hi=>by
   have h2:=h i hi;have:i≠n:=fun e2=>e (e2▸hi);omega)
  omega
def pick (L:List ByteArray) (seen:List Nat):List ByteArray:=seen.map fun i=>(L[i]?).getD ⟨#[]⟩
theorem aAb {L:List ByteArray} {seen:List Nat} (hd:seen.Nodup) (h1:∀ i∈seen,i < L.length) (h2:∀ i,i < L.length→i∈seen):(pick L seen).Perm L:=by
 have hp:seen.Perm (List.range L.length):=(List.perm_ext_iff_of_nodup hd List.nodup_range).2 fun a=>⟨fun h=>List.mem_range.2 (h1 a h),fun h=>h2 a (List.mem_range.1 h)⟩;have h3:=hp.map (fun i=>(L[i]?).getD ⟨#[]⟩);have h4:(List.range L.length).map (fun i=>(L[i]?).getD ⟨#[]⟩)=L:=by
  apply List.ext_getElem
  ·simp
  intro i h5 h6;simp [h6]
 rw [h4] at h3;exact h3
theorem DT (a b:List UInt8):decide (a≤b)||decide (b≤a):=by rcases List.le_total a b with h|h<;>simp [h]
theorem FO {a b:List ByteArray} (h:a.Perm b):eZ a=eZ b:=by
 unfold eZ;congr 1;have hs:∀ l:List ByteArray,((l.map OJ).mergeSort fun x y=>decide (x≤y)).Pairwise (fun x y=>decide (x≤y)=true):=fun l =>
  List.pairwise_mergeSort (le:=fun(x y:List UInt8)=>decide (x≤y)) (fun a b c h1 h2=>decide_eq_true (List.le_trans (aHn h1) (aHn h2))) DT _
 exact List.Perm.eq_of_pairwise (fun x y _ _ h3 h4=>List.le_antisymm (aHn h3) (aHn h4)) (hs a) (hs b) (((List.mergeSort_perm _ _).trans (h.map OJ)).trans (List.mergeSort_perm _ _).symm)
end Go.Proofs.YtmkgeogoojcciaaGreatDoor
end
section
namespace Go.Proofs
open Go.RowKit Go.Sort Go.Shelf
def aHf:Go.Shelf.Ren:=⟨fun|264=>166|n=>n,fun|53=>93|46=>150|n=>n,fun|n=>n⟩
theorem aHk:Go.Proofs.Lays.n264 Tryz.prog aHf:={
  mixed:=by kernel_rfl
  f264:=Tryz.func166.trans (congrArg some (by kernel_rfl))
  t46:=iD
  a46:=DQ
  z46:=AN
  v46:=sL
  t53:=fQ
  a53:=sP
  z53:=qC
  v53:=pA}
end Go.Proofs
namespace Go.Proofs.YtmkgeogoojcciaaGreatDoor
open Go.Proofs.Tryz
open Go.Abs
abbrev uv (n:Nat):AV:=.pv (.int .u64 (n:Int))
theorem GP (x y:Nat) (hx:x < 18446744073709551616) (hy:y < 18446744073709551616) (H:aE):aK Tryz.prog 166 [uv x,uv y] H (fun r H'=>r=.tup [uv (x*y / 18446744073709551616),uv (x*y % 18446744073709551616)]∧H'=H) :=Go.Abs.mul64_c aHk x y hx hy H
theorem aAD (a k:Nat) {m:Int} (h:m.toNat=k):(a:Int) / 2 ^ m.toNat=((a / 2 ^ k:Nat):Int):=by
 rw [h]
 push_cast
 rfl
def DA (x:Nat):Nat:=x*2862933555777941757 % 18446744073709551616
def aD2 (x:Nat):Nat:=DA x ^^^ (DA x / 2 ^ 32)
def GQ (x:Nat):Nat:=aD2 x*3935559000370003845 % 18446744073709551616
def EK (x:Nat):Nat:=GQ x ^^^ (GQ x / 2 ^ 29)
theorem xU (x:Nat):DA x < 18446744073709551616:=Nat.mod_lt _ (by decide)
theorem xT (x:Nat):GQ x < 18446744073709551616:=Nat.mod_lt _ (by decide)
theorem qY {x:Nat} (k:Nat) (h:x < 18446744073709551616):x / 2 ^ k < 18446744073709551616:=Nat.lt_of_le_of_lt (Nat.div_le_self _ _) h
theorem vU {x y:Nat} (h:x < 18446744073709551616) (h':y < 18446744073709551616):x ^^^ y < 18446744073709551616:=Nat.xor_lt_two_pow (n:=64) h h'
theorem aD1 (x:Nat):aD2 x < 18446744073709551616:=vU (xU x) (qY 32 (xU x))
theorem MW (x:Nat):EK x < 18446744073709551616:=vU (xT x) (qY 29 (xT x))
theorem aGE (x:Nat) (hx:x < 18446744073709551616) (H:aE):aK Tryz.prog 163 [uv x] H (fun r H'=>r=uv (EK x)∧H'=H):=by refine Pu ?_;exact Bd func163 rfl ntmps163<|Sr<|Dd aR<|Zz<|Sr<|Dd aB<|Dd (by exact aA rfl rfl aHK rfl (GP x 2862933555777941757 hx (by decide) _))<|Dd aB<|Dd eC<|Dd eC<|Dd aR<|Zz<|Sr<|Dd aB<|Dd aB<|Dd (by exact BC rfl rfl rfl (by decide) (by decide) (aAD (DA x) 32 rfl))<|Dd (by exact jX rfl (by simp) rfl rfl (bits_xor_u64_nat (DA x) (DA x / 2 ^ 32) (xU x) (qY 32 (xU x))))<|Dd aR<|Zz<|Sr<|Dd aB<|Dd (by exact aA rfl rfl aHK rfl (GP (aD2 x) 3935559000370003845 (aD1 x) (by decide) _))<|Dd aB<|Dd eC<|Dd eC<|Dd aR<|Zz<|Sr<|Dd aB<|Dd aB<|Dd (by exact BC rfl rfl rfl (by decide) (by decide) (aAD (GQ x) 29 rfl))<|Dd (by exact jX rfl (by simp) rfl rfl (bits_xor_u64_nat (GQ x) (GQ x / 2 ^ 29) (xT x) (qY 29 (xT x))))<|Dd aR<|Zz<|aH<|Rt<|Qq
def tQ (n:Nat):Int:=if n < 10 then 48+(n:Int)else 87+(n:Int)
def iB (i:Nat):List AV:=(List.range 16).map fun j=>.pv (.int .u8 (if j < i then tQ j else 0))
theorem rD (i:Nat):(iB i).length=16:=by simp [iB]
theorem AG {i j:Nat} (h:j < 16):(iB i)[j]?=some (.pv (.int .u8 (if j < i then tQ j else 0))):=by rw [iB,aIL,List.getElem?_range h];rfl
theorem HJ {i:Nat} (h:i < 16):(iB i).set i (.pv (.int .u8 (tQ i)))=iB (i+1):=by
 apply List.ext_getElem?;intro j;by_cases hj:j < 16
 ·rw [AG hj];by_cases e:i=j
  ·subst e;rw [List.getElem?_set_self (by rw [rD];exact h),aHq (Nat.lt_succ_self _)]
  rw [List.getElem?_set_ne e,AG hj];by_cases h1:j < i
  ·rw [aHq h1,aHq (by omega)]
  rw [aHp h1,aHp (by omega)]
 rw [List.getElem?_eq_none (by rw [List.length_set,rD];omega),List.getElem?_eq_none (by rw [rD];omega)]
theorem TD {i:Nat} (h:i < 16) (x:AV) {y:AV} (hy:y=.pv (.int .u8 (tQ i))):((iB i).set i x).set i y=iB (i+1):=by rw [List.set_set,hy,HJ h]
theorem oI {H:aE} {n T i:Nat}:∀ r∈(bx n T (iB i)).rows,∀ a∈r,Clo H a:=by intro r hr a ha;rw [bx,aHu] at hr;subst hr;obtain ⟨j,_,rfl⟩:=List.mem_map.1 ha;exact .pv _
theorem TE {H:aE} {i:Nat}:∀ a∈iB i,Clo H a:=by intro a ha;obtain ⟨j,_,rfl⟩:=List.mem_map.1 ha;exact .pv _
theorem VW:((iB 16).drop 0).take 16=iB 16:=rfl
theorem aB4 (H:aE):aK Tryz.prog 164 [] H (fun r H'=>r=.agg (iB 16)∧H'=H):=by
 refine Pu ?_;refine Bd func164 rfl ntmps164<|Sr<|Dd (by exact dW (id:=0) rfl TW rfl rfl)<|Zz<|Sr<|Dd (by exact dW (id:=1) rfl TW rfl rfl)<|Zz<|Sq<|Sr<|Dd aB<|Zz<|aJ ?_;refine bG (σ:=Nat) (fun i=>([(0,.ref 0 0 0 0),(1,.ref 1 0 0 0),(3,iv (i:Int))],[(1,bx 16 197 (iB i)),(0,bx 16 197 (iB 0))])) (fun i=>i≤16) (fun i=>16 - i) 0 (aII _) ?_ ?_
 ·exact(cC.wk (Ea<|Ea<|Eb<|trivial) (Hc oI<|Hc oI<|trivial) trivial)
 intro i hi;refine Sr<|Dd cP<|Zz<|Sq ?_;refine Cn ?_ ?_<;>intro hc1
 ·have hlt:i < 16:=by have:=aHn hc1;omega
  refine aF<|Sq<|aJ<|Sr<|Dd aB<|Dd aR<|Zz<|Sr<|Dd aB<|Dd aB<|Dd rL<|Dd (by exact eO rfl cJ bV rfl (by exact wu8 (by omega) (by omega)))<|Dd (by exact lV rfl rI eL rfl rfl rfl rfl (by omega) (by exact aIC _) (by omega) rfl)<|Uu (by exact bU rfl eL rfl rfl rfl rfl rfl rfl (by rw [rD];omega) (show (iB i).set (0+i*1) (.pv (.int .u8 (48+(i:Int))))=(iB i).set i (.pv (.int .u8 (48+(i:Int))))by rw [aIJ,Nat.mul_one]) rfl)<|Zz<|Sr<|Dd aB<|Dd CD<|Zz ?_;refine Cn ?_ ?_<;>intro hc2
  ·have h10:¬ i < 10:=by have:=aHn hc2;omega
   refine Rg<|Dd aB<|Dd aB<|Dd rL<|Dd (by exact dG rfl rfl rfl (by exact eS (by omega) (by omega)))<|Dd (by exact eO rfl cJ bV rfl (by exact wu8 (by omega) (by omega)))<|Dd (by exact lV rfl rI eL rfl rfl rfl rfl (by omega) (by exact aIC _) (by omega) rfl)<|Uu (by exact bU rfl eL rfl rfl rfl rfl rfl rfl (by rw [List.length_set,rD];omega) (show ((iB i).set i (.pv (.int .u8 (48+(i:Int))))).set (0+i*1) (.pv (.int .u8 (97+(i:Int) - 10)))=iB (i+1)by rw [aIJ,Nat.mul_one];exact TD hlt _ (by rw [tQ,aHp (by have:=aHn hc2;omega)];congr 2;omega)) rfl)<|Zz<|Rg<|Dd rL<|Dd aB<|Zz ?_;exact⟨i+1,by omega,by omega,(cC.wk (Ea<|Ea<|Eb<|trivial) (Hc oI<|Hc oI<|trivial) trivial)⟩
  have h10:i < 10:=by have:=aHo hc2;omega
  refine aF<|Rg<|Dd rL<|Dd aB<|Zz ?_;refine⟨i+1,by omega,by omega,?_⟩;have e:(iB i).set i (.pv (.int .u8 (48+(i:Int))))=iB (i+1):=by
   rw [← HJ hlt,tQ,aHq h10]
  rw [e];exact(cC.wk (Ea<|Ea<|Eb<|trivial) (Hc oI<|Hc oI<|trivial) trivial)
 have hge:i=16:=by have:=aHo hc1;omega
 subst hge;refine aV<|Sr<|Dd (by exact eW rfl isAgg197 NV rfl rfl rfl rfl VW rfl)<|Uu (vJ NV)<|Zz<|aH ?_;refine bI (H':=[]) (.inr rfl) rfl (mR rfl isAgg197 NV rfl rfl rfl VW rfl) (Fin.wk (.agg TE) trivial trivial) ?_;exact Qq
end Go.Proofs.YtmkgeogoojcciaaGreatDoor
end
namespace Go.Proofs.YtmkgeogoojcciaaGreatDoor
open Go.Proofs.Tryz
open Go.Abs
def pP (l:List UInt8):Nat:=l.foldl (fun n b=>n*256+b.toNat) 0
def iV (l:List UInt8):List UInt8:=l.take 8++List.replicate (8 - l.length) 0
theorem PE (l:List UInt8):(iV l).length=8:=by rw [iV,aHs,aIF,List.length_replicate];omega
theorem LD (l:List UInt8) (b:UInt8):pP (l++[b])=pP l*256+b.toNat:=by rw [pP,List.foldl_append];rfl
theorem V3 (l:List UInt8):pP l < 256 ^ l.length:=by
 suffices h:∀ (l:List UInt8) (n:Nat),l.foldl (fun n b=>n*256+b.toNat) n < (n+1)*256 ^ l.length by
  have:=h l 0;rw [aIJ,Nat.one_mul] at this;exact this
 intro l
 induction l with
 | nil=>intro n;simp
 | cons b r ih =>
  intro n;have h1:=ih (n*256+b.toNat);have h2:b.toNat < 256:=b.toNat_lt;refine Nat.lt_of_lt_of_le h1 ?_;rw [aHt,Nat.pow_succ,Nat.mul_comm (256 ^ r.length) 256,← Nat.mul_assoc];exact Nat.mul_le_mul_right _ (by omega)
theorem HZ {l:List UInt8} (h:l.length≤8):pP l < 18446744073709551616:=by refine Nat.lt_of_lt_of_le (V3 l) ?_;exact Nat.le_trans (Nat.pow_le_pow_right (by decide) h) (by decide)
theorem Q3 {l:List UInt8} (h:l.length≤7):pP l < 72057594037927936:=by refine Nat.lt_of_lt_of_le (V3 l) ?_;exact Nat.le_trans (Nat.pow_le_pow_right (by decide) h) (by decide)
def HG:Nat→List UInt8→Nat
 | s,a::b::c::d::e::f::g::h::r=>HG (EK (s ^^^ pP [a,b,c,d,e,f,g,h])) r
 | s,l=>EK (s ^^^ pP (iV l))
theorem KV (s:Nat) {l:List UInt8} (h:8≤l.length):HG s l=HG (EK (s ^^^ pP (iV (l.take 8)))) (l.drop 8):=by
 match l,h with
 | a::b::c::d::e::f::g::h::r,_=>rfl
theorem KW (s:Nat) {l:List UInt8} (h:l.length < 8):HG s l=EK (s ^^^ pP (iV l)):=by
 match l,h with
 | [],_=>rfl
 | [a],_=>rfl
 | [a,b],_=>rfl
 | [a,b,c],_=>rfl
 | [a,b,c,d],_=>rfl
 | [a,b,c,d,e],_=>rfl
 | [a,b,c,d,e,f],_=>rfl
 | [a,b,c,d,e,f,g],_=>rfl
 | _::_::_::_::_::_::_::_::r,h=>simp only [aHt] at h;omega
def XO (st j:Nat):Nat:=st / 2 ^ (60 - 4*j) % 16
def tR (st:Nat):List UInt8:=(List.range 16).map fun j=>UInt8.ofNat (tQ (XO st j)).toNat
def pG (st i:Nat):List AV:=(List.range 16).map fun j=>.pv (.int .u8 (if j < i then tQ (XO st j)else 0))
theorem uS (st i:Nat):(pG st i).length=16:=by simp [pG]
theorem GM {st i j:Nat} (h:j < 16):(pG st i)[j]?=some (.pv (.int .u8 (if j < i then tQ (XO st j)else 0))):=by rw [pG,aIL,List.getElem?_range h];rfl
theorem SO {st i:Nat} (h:i < 16):(pG st i).set i (.pv (.int .u8 (tQ (XO st i))))=pG st (i+1):=by
 apply List.ext_getElem?;intro j;by_cases hj:j < 16
 ·rw [GM hj];by_cases e:i=j
  ·subst e;rw [List.getElem?_set_self (by rw [uS];exact h),aHq (Nat.lt_succ_self _)]
  rw [List.getElem?_set_ne e,GM hj];by_cases h1:j < i
  ·rw [aHq h1,aHq (by omega)]
  rw [aHp h1,aHp (by omega)]
 rw [List.getElem?_eq_none (by rw [List.length_set,uS];omega),List.getElem?_eq_none (by rw [uS];omega)]
theorem aAo {H:aE} {st i:Nat}:∀ a∈pG st i,Clo H a:=by intro a ha;obtain ⟨j,_,rfl⟩:=List.mem_map.1 ha;exact .pv _
theorem aBu {H:aE} {l:List UInt8}:∀ a∈iC l,Clo H a:=by intro a ha;obtain ⟨j,_,rfl⟩:=List.mem_map.1 ha;exact .pv _
theorem DM {H:aE} {n T:Nat} {l:List AV} (h:∀ a∈l,Clo H a):∀ r∈(bx n T l).rows,∀ a∈r,Clo H a:=by intro r hr a ha;rw [bx,aHu] at hr;subst hr;exact h a ha
theorem MR (st j:Nat):XO st j < 16:=Nat.mod_lt _ (by decide)
theorem aDl {n:Nat} (h:n < 16):0≤tQ n∧tQ n < 256:=by
 unfold tQ
 split<;>omega
theorem SQ (st:Nat):pG st 16=iC (tR st):=by rw [pG,iC,tR,List.map_map];refine List.map_congr_left fun j hj=>?_;have hj':=List.mem_range.1 hj;have hb:=aDl (MR st j);simp only [Function.comp];rw [aHq hj',UInt8.toNat_ofNat'];have h2:(tQ (XO st j)).toNat % 2 ^ 8=(tQ (XO st j)).toNat:=Nat.mod_eq_of_lt (by omega);rw [h2,Int.toNat_of_nonneg hb.1]
def I7 (n:Nat):Nat:=1181783497276652981 ^^^ n
def QE (s:ByteArray):ByteArray:=⟨(tR (HG (I7 s.size) s.data.toList)).toArray⟩
theorem VU {n:Nat} (h:n < 18446744073709551616):I7 n < 18446744073709551616:=vU (by decide) h
theorem orN {a b:Nat} (ha:a < 72057594037927936) (hb:b < 256):bits .or .u64 ((a*256:Nat):Int) (b:Int)=((a*256+b:Nat):Int):=by rw [bits_or_u64_nat _ _ (by omega) (by omega)];have h:=Nat.two_pow_add_eq_or_of_lt (i:=8) (b:=b) (by omega) a;rw [Nat.mul_comm] at h;rw [show a*256=a*2 ^ 8 from rfl,h]
theorem aGn {a:Nat} (h:a < 72057594037927936):IntKind.u64.wrap ((a:Int)*2 ^ ((8:Int)).toNat)=((a*256:Nat):Int):=by show IntKind.u64.wrap ((a:Int)*256)=_;rw [IntKind.wrap_u64];omega
theorem OH {n:Nat} (h:n < 18446744073709551616):IntKind.u64.wrap (n:Int)=(n:Int):=by rw [IntKind.wrap_u64];omega
theorem Z3 (s:ByteArray) (st:Nat) (hst:st < 18446744073709551616):aK Tryz.prog 162 [sv s,.ref 903 0 0 0] [(903,bx 1 93 [uv st])] (fun r H'=>r=.tup []∧H'=[(903,bx 1 93 [uv (EK (st ^^^ pP (iV s.data.toList)))])]):=by
 have hp:(List.replicate 8 (AV.pv (.int .u8 0)))=iC (List.replicate 8 0):=by rw [iC,List.map_replicate];rfl
 have hm:min s.size 8≤8:=by omega
 have hsl:s.data.toList.length=s.size:=by simp
 have hcell:iC (s.data.toList.take (min s.size 8))++(List.replicate 8 (AV.pv (.int .u8 0))).drop (min s.size 8)=iC (iV s.data.toList):=by
  rw [hp,iC,iC,← List.map_drop,← List.map_append,List.drop_replicate,iC,iV,hsl];congr 2
  ·by_cases h:s.size≤8
   ·rw [Nat.min_eq_left h,List.take_of_length_le (by omega),List.take_of_length_le (by omega)]
   rw [Nat.min_eq_right (by omega)]
  congr 1;omega
 refine Bd func162 rfl ntmps162<|Sr<|Dd (by exact dW (id:=3) rfl aFn rfl rfl)<|Zz<|Sq<|Rg ?_;refine CA (id:=3) rfl rfl rfl rfl underlying195 eL rfl rfl rfl ?_;refine aCL rfl rfl rfl (by decide) rfl rfl ?_;refine NT rfl rfl rfl rfl cL eL rfl (by decide) rfl rfl ?_;refine Zz<|Sr<|Dd aR<|Zz<|Sq<|Sr<|Dd aB<|Zz<|aJ ?_;refine bG (σ:=Nat) (fun i=>([(0,sv s),(1,.ref 903 0 0 0),(3,.ref 3 0 0 0),(4,uv (pP ((iV s.data.toList).take i))),(9,iv (i:Int))],[(3,bx 8 195 (iC (iV s.data.toList))),(903,bx 1 93 [uv st])])) (fun i=>i≤8) (fun i=>8 - i) 0 (aII _) ?_ ?_
 ·rw [← hcell];refine cC.wk (Eb<|Ea<|Ea<|Eb<|Eb<|trivial) (Hc ?_<|Hb<|trivial) ⟨rfl,trivial⟩;rw [hcell];exact DM aBu
 intro i hi;have hpl:=PE s.data.toList;have hti:((iV s.data.toList).take i).length≤8:=by rw [aIF];omega
 refine Sr<|Dd cP<|Zz<|Sq ?_;refine Cn ?_ ?_<;>intro hc1
 ·have hlt:i < 8:=by have:=aHn hc1;omega
  obtain ⟨b,hb⟩:∃ b,(iV s.data.toList)[i]?=some b:=⟨_,aHw (by omega)⟩;have hb2:(iC (iV s.data.toList))[i]?=some (.pv (.int .u8 (b.toNat:Int))):=by rw [iC,aIL,hb];rfl
  have ht7:((iV s.data.toList).take i).length≤7:=by rw [aIF];omega
  have ha:=Q3 ht7;have hb3:=b.toNat_lt;refine aF<|Sq<|aJ<|Sr<|Dd aB<|Dd aR<|Zz<|Rg<|Dd aB<|Dd (by exact aDU rfl rfl rfl (by decide) (by decide) (aGn ha))<|Dd aB<|Dd (by exact lV rfl underlying195 eL rfl rfl rfl rfl (by omega) (by exact aIC _) (by omega) rfl)<|Dd (by exact bH rfl rM rfl rfl rfl rfl (by rw [aIJ,Nat.mul_one];exact hb2))<|Dd (by exact eO rfl bV fQ rfl (OH (by omega)))<|Dd (by exact jX rfl (by simp) rfl rfl (orN ha (by omega)))<|Dd aR<|Zz<|Rg<|Dd rL<|Dd aB<|Zz ?_;refine⟨i+1,by omega,by omega,?_⟩;have e:pP ((iV s.data.toList).take (i+1))=pP ((iV s.data.toList).take i)*256+b.toNat:=by rw [List.take_add_one,hb,Option.toList_some,LD]
  rw [e];exact(cC.wk (Eb<|Ea<|Ea<|Eb<|Eb<|trivial) (Hc (DM aBu)<|Hb<|trivial) ⟨rfl,trivial⟩)
 have hge:i=8:=by have:=aHo hc1;omega
 subst hge;have e:(iV s.data.toList).take 8=iV s.data.toList:=List.take_of_length_le (by omega);rw [e];refine aV<|Rg<|Dd (cW sP)<|Dd aB<|Dd (by exact jX rfl (by simp) rfl rfl (bits_xor_u64_nat st _ hst (HZ (Nat.le_of_eq hpl))))<|Dd (by exact aA rfl rfl call163 rfl (aGE _ (vU hst (HZ (Nat.le_of_eq hpl))) _))<|Uu (vJ qC)<|Zz ?_;exact eQ (H':=[(903,bx 1 93 [uv (EK (st ^^^ pP (iV s.data.toList)))])]) (.inl rfl) rfl (Fin.wk (by simp) (Hb<|trivial) ⟨rfl,trivial⟩) ⟨rfl,rfl⟩
theorem QB (s:ByteArray) (i j:Nat):(s.extract i j).data.toList=(s.data.toList.drop i).take (j - i):=by rw [ByteArray.data_extract,Array.toList_extract,List.extract_eq_take_drop]
theorem dAt (st i:Nat):(iB 16)[0+XO st i*1]?=some (.pv (.int .u8 (tQ (XO st i)))):=by rw [aIJ,Nat.mul_one,AG (MR st i),aHq (MR st i)]
theorem aHB {a:Nat} (ha:a < 18446744073709551616):bits .and .u64 (a:Int) 15=((a % 16:Nat):Int):=by have h:=bits_and_u64_nat a 15 ha (by decide);rw [Nat.and_two_pow_sub_one_eq_mod a 4] at h;exact h
theorem aFs (s:ByteArray) (H:aE) (hs:s.size < 4611686018427387904):aK Tryz.prog 131 [sv s] H (fun r H'=>r=sv (QE s)∧H'=H):=by
 refine Pu ?_;have hd0:I7 s.size < 18446744073709551616:=VU (by omega);have hsl:s.data.toList.length=s.size:=by simp
 refine Bd func131 rfl ntmps131<|Sr<|Dd aR<|Zz<|Sr<|Dd aB<|Dd (mD aC)<|Dd (by exact eO rfl cJ fQ rfl (OH (by omega)))<|Dd (by exact jX rfl (by simp) rfl rfl (bits_xor_u64_nat 1181783497276652981 s.size (by decide) (by omega)))<|Dd (by exact dW (id:=903) rfl aGi rfl rfl)<|Uu (vJ qC)<|Zz<|Sr<|Dd (by exact iQ rfl rfl)<|Dd aR<|Zz<|Sq<|aJ ?_;refine iM (fun(x:ByteArray) (st:Nat)=>([(0,sv x),(3,.ref 903 0 0 0),(4,.clo 162 [.ref 903 0 0 0])],[(903,bx 1 93 [uv st])])) (fun x st=>st < 18446744073709551616∧x.size≤s.size∧HG st x.data.toList=HG (I7 s.size) s.data.toList) (fun x st=>x.size) s (I7 s.size) ⟨hd0,aHx _,rfl⟩ ?_ ?_
 ·exact Wk
 rintro x st ⟨hst,hx,hD⟩;have hxl:x.data.toList.length=x.size:=by simp
 refine Sq<|Sr<|Dd aB<|Dd (mD aC)<|Dd CD<|Zz ?_;refine Cn ?_ ?_<;>intro hc1
 ·have h8:8≤x.size:=by have:=aHn hc1;omega
  refine aF<|Sq<|aJ<|Rg<|Dd aB<|Dd aB<|Dd (by exact bQ (l:=0) (h:=8) rfl aC rfl rfl rfl (by omega) (by omega) rfl)<|Dd (by exact kZ rfl rfl rfl (iL.clo call162 (Z3 (x.extract 0 8) st hst)))<|Zz<|Rg<|Dd aB<|Dd (by exact bQ (l:=8) (h:=x.size) rfl aC rfl rfl rfl (by omega) (by omega) rfl)<|Da ?_;refine⟨x.extract 8 x.size,EK (st ^^^ pP (iV (x.extract 0 8).data.toList)),⟨MW _,by rw [ByteArray.size_extract];omega,?_⟩,by rw [ByteArray.size_extract];omega,Wk⟩;rw [← hD,KV st (by omega:8≤x.data.toList.length),QB,QB,List.drop_zero,List.take_of_length_le (l:=x.data.toList.drop 8) (by rw [aIG];omega)]
 have h8:x.size < 8:=by have:=aHo hc1;omega
 have hL:=KW st (by omega:x.data.toList.length < 8);obtain ⟨S,hS⟩:∃ S,S=EK (st ^^^ pP (iV x.data.toList)):=⟨_,rfl⟩;have hSl:S < 18446744073709551616:=by rw [hS];exact MW _
 have hres:QE s=⟨(tR S).toArray⟩:=by rw [QE,← hD,hL,hS]
 rw [hres];refine aV<|Sr<|Dd aB<|Dd aB<|Dd (by exact kZ rfl rfl rfl (iL.clo call162 (Z3 x st hst)))<|Zz<|Sr<|Dd (by exact aA rfl rfl call164 rfl (aB4 _))<|Dd (by exact dW (id:=5) rfl TW rfl rfl)<|Uu (vJ NV)<|Zz<|Sr<|Dd (by exact dW (id:=6) rfl TW rfl rfl)<|Zz<|Sq<|Sr<|Dd aB<|Zz<|aJ ?_;rw [← hS];refine bG (σ:=Nat) (fun i=>([(3,.ref 903 0 0 0),(5,.ref 5 0 0 0),(6,.ref 6 0 0 0),(26,iv (i:Int))],[(6,bx 16 197 (pG S i)),(5,bx 16 197 (iB 16)),(903,bx 1 93 [uv S])])) (fun i=>i≤16) (fun i=>16 - i) 0 (aII _) ?_ ?_
 ·exact(cC.wk (Ea<|Ea<|Ea<|Eb<|trivial) (Hc (DM aAo)<|Hc (DM TE)<|Hb<|trivial) trivial)
 intro i hi;refine Sr<|Dd cP<|Zz<|Sq ?_;refine Cn ?_ ?_<;>intro hc2
 ·have hlt:i < 16:=by have:=aHn hc2;omega
  refine aF<|Sq<|aJ<|Sr<|Dd aB<|Dd aR<|Zz<|Rg<|Dd aB<|Dd (cW sP)<|Dd aB<|Dd (by exact fG rfl rfl rfl (by exact eS (by omega) (by omega)))<|Dd (by exact dG rfl rfl rfl (by exact eS (by omega) (by omega)))<|Dd (by exact BC rfl rfl rfl (by omega) (by simp [IntKind.bits];omega) (aAD S (60 - 4*i) (by omega)))<|Dd (by exact jX rfl (by simp) rfl rfl (aHB (qY _ hSl)))<|Dd (by exact lV rfl rI eL rfl rfl rfl rfl (by omega) (aIC _) (MR S i) rfl)<|Dd (by exact bH rfl rM rfl rfl rfl rfl (dAt S i))<|Dd (by exact lV rfl rI eL rfl rfl rfl rfl (by omega) (by exact aIC _) (by omega) rfl)<|Uu (by exact bU rfl eL rfl rfl rfl rfl rfl rfl (by rw [uS];omega) (show (pG S i).set (0+i*1) (.pv (.int .u8 (tQ (XO S i))))=pG S (i+1)by rw [aIJ,Nat.mul_one];exact SO hlt) rfl) ?_;refine Zz<|Rg<|Dd rL<|Dd aB<|Zz ?_;exact⟨i+1,by omega,by omega,(cC.wk (Ea<|Ea<|Ea<|Eb<|trivial) (Hc (DM aAo)<|Hc (DM TE)<|Hb<|trivial) trivial)⟩
 have hge:i=16:=by have:=aHo hc2;omega
 subst hge;refine aV<|Sq<|Rg ?_;refine CA (id:=6) rfl rfl rfl rfl rI eL rfl rfl rfl ?_;refine aEO (bs:=tR S) rfl rfl rfl rfl cL bV aC (by rw [← SQ];rfl) (by decide) rfl ?_;exact Dd aR<|Zz<|aH<|Rt<|Qq
end Go.Proofs.YtmkgeogoojcciaaGreatDoor
namespace Go.Abs
def aF7 (H' H:aE):Prop:=∀ j o',H'.get j=some o'→∃ o,H.get j=some o∧o'.g=o.g∧o'.sz=o.sz∧o'.rows.length=o.rows.length
theorem VRel.restrictG {w:World} {I:Nat→Prop} {ι:eE} {H H':aE} (hs:aF7 H' H) {v:Value} {a:AV} (h:VRel w I ι H v a):Clo H' a→VRel w I ι H' v a:=by
 induction h with
 | any v=>exact fun _=>.any v
 | pv h=>exact fun _=>.pv h
 | ref o h1 h2 h3 h4 =>
  intro hc;cases hc with
  | ref hc =>
   obtain ⟨o',ho'⟩:=Option.isSome_iff_exists.1 hc;obtain ⟨o2,e1,e2,e3,e4⟩:=hs _ _ ho';rw [h1] at e1;cases e1;exact .ref o' ho' (by omega) h3 (fun hg=>by rw [e3];exact h4 (by omega))
 | pad b off cap sz h1 h2 h3 cs h4 h5 h6=>exact fun _=>.pad b off cap sz h1 h2 h3 cs h4 h5 h6
 | osl o h1 h2 h3 h4 =>
  intro hc;cases hc with
  | osl hc =>
   obtain ⟨o',ho'⟩:=Option.isSome_iff_exists.1 hc;obtain ⟨o2,e1,e2,e3,e4⟩:=hs _ _ ho';rw [h1] at e1;cases e1;exact .osl o' ho' (by omega) h3 (fun hg=>by rw [e3,e4];exact h4 (by omega))
 | clo hl h ih =>
  intro hc;cases hc with|clo hc=>exact .clo hl fun i v a hv ha=>ih i v a hv ha (hc a (aIB ha))
 | agg hl h1 h ih =>
  intro hc;cases hc with|agg hc=>exact .agg hl h1 fun i v a hv ha=>ih i v a hv ha (hc a (aIB ha))
 | tup hl h ih =>
  intro hc;cases hc with|tup hc=>exact .tup hl fun i v a hv ha=>ih i v a hv ha (hc a (aIB ha))
 | mp o h1 h2 h3 h4 =>
  intro hc;cases hc with
  | mp hc =>
   obtain ⟨o',ho'⟩:=Option.isSome_iff_exists.1 hc;obtain ⟨o2,e1,e2,e3,e4⟩:=hs _ _ ho';rw [h1] at e1;cases e1;exact .mp o' ho' (by omega) h3 (fun hg=>by rw [e3];exact h4 (by omega))
 | it o h1 h2 h3 h4 =>
  intro hc;cases hc with
  | it hc =>
   obtain ⟨o',ho'⟩:=Option.isSome_iff_exists.1 hc;obtain ⟨o2,e1,e2,e3,e4⟩:=hs _ _ ho';rw [h1] at e1;cases e1;exact .it o' ho' (by omega) h3 (fun hg=>by rw [e3];exact h4 (by omega))
 | yld o h1 h2 h3 h4 =>
  intro hc;cases hc with
  | yld hc =>
   obtain ⟨o',ho'⟩:=Option.isSome_iff_exists.1 hc;obtain ⟨o2,e1,e2,e3,e4⟩:=hs _ _ ho';rw [h1] at e1;cases e1;exact .yld o' ho' (by omega) h3 (fun hg=>by rw [e3];exact h4 (by omega))
 | osc o h1 h2 h3 h4 =>
  intro hc;cases hc with
  | osc hc =>
   obtain ⟨o',ho'⟩:=Option.isSome_iff_exists.1 hc;obtain ⟨o2,e1,e2,e3,e4⟩:=hs _ _ ho';rw [h1] at e1;cases e1;exact .osc o' ho' (by omega) h3 (fun hg=>by rw [e3];exact h4 (by omega))
theorem VRel.freezeG {w:World} {I:Nat→Prop} {ι:eE} {H H':aE} {id:Nat} {ob:Ob} {ps:List (List PV)} (hr:Rel I ι H w) (hs:aF7 H' H) (hH:H.get id=some ob) (hps:ob.rows=ps.map (·.map .pv)) {a a':AV} (hf:Fz H' id ob.g ps a a') :
  ∀ {v:Value},VRel w I ι H v a→VRel w (nP I ι id) ι H' v a':=by
 induction hf with
 | same h=>exact fun hv=>(hv.restrictG hs h).mono' (fun _ _=>rfl) (fun _ h=>.inl h) (fun _ o h=>⟨o,h,aHx _,fun _=>⟨rfl,rfl,fun _=>aHx _⟩⟩)
 | osl hq =>
  intro v hv;subst hq;exact .pv (EA hr hH hps hv)
 | agg hl h ih =>
  intro v hv;cases hv with
  | agg h1 h2 h3 =>
   refine .agg (h1.trans hl) h2 fun i u a' hu ha'=>?_;have hi:=(aHv.1 ha').1;exact ih i _ a' (aHw (by omega)) ha' (h3 i u _ hu (aHw (by omega)))
 | tup hl h ih =>
  intro v hv;cases hv with
  | tup h1 h3 =>
   refine .tup (h1.trans hl) fun i u a' hu ha'=>?_;have hi:=(aHv.1 ha').1;exact ih i _ a' (aHw (by omega)) ha' (h3 i u _ hu (aHw (by omega)))
def H9 (H':aE) (id g:Nat) (ps:List (List PV)) (rows rows':List (List AV)):Prop :=rows'.length=rows.length∧∀ (i:Nat) (r':List AV),rows'[i]?=some r'→∃ r,rows[i]?=some r∧r.length=r'.length∧∀ (k:Nat) (a a':AV),r[k]?=some a→r'[k]?=some a'→Fz H' id g ps a a'
theorem dM {H':aE} {id g:Nat} {ps:List (List PV)} {rows:List (List AV)} (h:∀ r∈rows,∀ a∈r,Clo H' a):H9 H' id g ps rows rows :=⟨rfl,fun i r hi=>⟨r,hi,rfl,fun k a a' h1 h2=>by rw [h1] at h2;cases h2;exact .same (h r (aIB hi) a (aIB h1))⟩⟩
theorem aDo {H':aE} {id g:Nat} {ps:List (List PV)} {r r':List AV} (hl:r.length=r'.length) (h:∀ (k:Nat) (a a':AV),r[k]?=some a→r'[k]?=some a'→Fz H' id g ps a a'):H9 H' id g ps [r] [r'] :=⟨rfl,fun i x hi=>by
  match i,hi with
  | 0,hi=>cases hi;exact⟨r,rfl,hl,h⟩⟩
def FOk (H H':aE) (id g:Nat) (ps:List (List PV)):aE→Prop
 | []=>True
 | (j,o')::r=>(∃ o,H.get j=some o∧o'.g=o.g∧o'.sz=o.sz∧o'.ty=o.ty∧H9 H' id g ps o.rows o'.rows)∧FOk H H' id g ps r
theorem FOk.spec {H H':aE} {id g:Nat} {ps:List (List PV)} {L:aE} (h:FOk H H' id g ps L):∀ p∈L,∃ o,H.get p.1=some o∧p.2.g=o.g∧p.2.sz=o.sz∧p.2.ty=o.ty∧H9 H' id g ps o.rows p.2.rows:=by
 induction L with
 | nil=>simp
 | cons x r ih =>
  obtain ⟨t,v⟩:=x;obtain ⟨h1,h2⟩:=h;intro p hp;rcases aID.1 hp with e|e
  ·subst e;exact h1
  exact ih h2 p e
theorem cC.fzG {G0:aE} {E E':bZ} {H H':aE} {id:Nat} {ob:Ob} (ps:List (List PV)) (hH:H.get id=some ob) (hps:ob.rows=ps.map (·.map .pv)) (hE:∀ p∈E',∃ v0,E.get p.1=some v0∧Fz H' id ob.g ps v0 p.2) (hno:H'.get id=none)
    (hF:FOk H H' id ob.g ps H') (hk:ZD H' H G0):cC G0 E H E' H':=by
  intro G hG N a w hs;obtain ⟨I,ι,hr,hst,he⟩:=hs.rel;subst hG;have hf:∀ j o',H'.get j=some o'→∃ o,H.get j=some o∧o'.g=o.g∧o'.sz=o.sz∧o'.ty=o.ty∧H9 H' id ob.g ps o.rows o'.rows:=fun j o' hj=>hF.spec _ (eM hj);have hsub:aF7 H' H:=fun j o' hj=>by
    obtain ⟨o,e1,e2,e3,_,e5⟩:=hf j o' hj;exact⟨o,e1,e2,e3,e5.1⟩
  have hown:∀ b,CP ι H' b→CP ι H b:=fun b ⟨j,o',c,h1,h2⟩=>by
    obtain ⟨o,e1,_⟩:=hf j o' h1;exact⟨j,o,c,e1,h2⟩
  have hrel:Rel (nP I ι id) ι H' w:=by
    refine⟨fun b hb=>?_,fun j o' hj=>?_,fun j j' o o' b c c' h1 h2=>?_,hr.glob.mono (fun _ _=>rfl) (fun _ h=>.inl h)⟩
    · rcases hb with hb|⟨cap,hb⟩
      · exact hr.imm b hb
      · exact hr.lt ⟨id,ob,cap,hH,hb⟩
    · obtain ⟨o,e1,e2,e3,e4,e5,e6⟩:=hf j o' hj
      refine(hr.obj j o e1).keepG e3 e4 e5 (O4 e5.symm (fun i r' hi=>by
        obtain ⟨r,z1,z2,z3⟩:=e6 i r' hi;exact⟨r,z1,z2,fun k a a' h1 h2 y ts e=>(z3 k a a' h1 h2).raw e⟩)) rfl (fun b' cap' q1 _=>⟨rfl,fun q3=>?_⟩) (fun i r' hi=>?_)
      · rintro(h|⟨cap,h⟩)
        · exact q3 h
        · have:j=id:=hr.inj j id o ob b' cap' cap e1 hH q1 h
          rw [this,hno] at hj;cases hj
      · obtain ⟨r,z1,z2,z3⟩:=e6 i r' hi
        exact⟨r,z1,z2,fun k a a' h1 h2 v hv=>VRel.freezeG hr hsub hH hps (z3 k a a' h1 h2) hv⟩
    · obtain ⟨p,e1,_⟩:=hf j o h1
      obtain ⟨p',e1',_⟩:=hf j' o' h2;exact hr.inj j j' p p' b c c' e1 e1'
  have hstep:Step G.I G.ι G.H G.w (nP I ι id) ι H' w :=
    { os := hst.os, tape := hst.tape, output := hst.output, size := hst.size, froz := hst.froz, keep := hst.keep
      imm:=fun b hb=>.inl (hst.imm b hb)
      immNew:=fun b hb=>by
        rcases hb with hb|⟨cap,hb⟩
        · exact hst.immNew b hb
        · rcases hst.own b ⟨id,ob,cap,hH,hb⟩with h1|h1
          · exact .inr (.inl h1)
          · exact .inr (.inr h1)
      own:=fun b hb=>hst.own b (hown b hb)
      objs:=fun j o ho=>by
        obtain ⟨o',h1,h2⟩:=hst.objs j o ho;exact⟨o',(hk.kept j (by simp [ho])).trans h1,h2⟩}
  refine⟨hs.defers,hs.size,_,ι,hrel,hstep,fun t v ht=>?_⟩;obtain ⟨v0,h1,h2⟩:=hE _ (hY ht);obtain ⟨c,hc,hv⟩:=he t v0 h1;exact⟨c,hc,VRel.freezeG hr hsub hH hps h2 hv⟩
section
def LR (x:Go.Loop) (E0:bZ):Ob:=⟨0,0,0,[[.raw x (E0.map (·.1))],E0.map (·.2)]⟩
section
variable {I:Nat→Prop} {ι:eE} {H:aE} {w:World}
theorem aEw {id:Nat} {x:Go.Loop} {E0:bZ} (hr:Rel I ι H w) (hH:H.get id=some (LR x E0)) {v:Value} (hv:VRel w I ι H v (.yld id 0)) :
  ∃ b,ι id=some (b,2)∧v=.func (.yield b) #[] #[]∧w.heap[b]?=some (.loop x)∧¬ I b∧∀ (i t:Nat) (a:AV),(E0.map (·.1))[i]?=some t→(E0.map (·.2))[i]?=some a→∃ c,x.tmps[t]?=some c∧VRel w I ι H c a:=by
 cases hv with
 | yld o h1 h2 h3 h4 =>
  rw [hH] at h1;cases h1;obtain ⟨_,b,e1,e2⟩:=h4 rfl;obtain ⟨_,b',y,k1,k2,k3,k4⟩:=(hr.obj id _ hH).rec rfl e1;rw [e1] at k1;cases k1;obtain ⟨q1,q2⟩:=k4 x _ _ rfl;subst q1;exact⟨b,e1,e2,k2,k3,q2⟩
theorem Rel.setRec {id b:Nat} {x y:Go.Loop} {E0:bZ} {H':aE} (hr:Rel I ι H w) (hH:H.get id=some (LR x E0)) (hι:ι id=some (b,2)) (hy:y.tmps=x.tmps)
  (h1:H'.get id=some (LR y E0)) (h2:∀ j,j≠id→H'.get j=H.get j):Rel I ι H' (w.putObj b (.loop y))∧Step I ι H w I ι H' (w.putObj b (.loop y)):=by
 obtain ⟨_,b',z,k1,k2,k3,k4⟩:=(hr.obj id _ hH).rec rfl hι;rw [hι] at k1;cases k1;obtain ⟨q1,q2⟩:=k4 x _ _ rfl;subst q1;have hlt:=(Array.getElem?_eq_some_iff.1 k2).1;have hown:∀ c,CP ι H' c→CP ι H c:=fun c ⟨j,o,cap,ho,hc⟩=>by
  by_cases e:j=id
  ·subst e;exact⟨j,_,cap,hH,hc⟩
  exact⟨j,o,cap,(h2 j e).symm.trans ho,hc⟩
 have hst:Step I ι H w I ι H' (w.putObj b (.loop y)):=by
  refine⟨rfl,rfl,rfl,by rw [World.putObj_size];exact aHx _,fun a ha _=>?_,fun _ h=>h,fun _ h=>.inl h,fun c hc=>.inl (hown c hc),fun c hc hn=>?_,fun j o hj=>?_⟩
  ·unfold World.frozen?;by_cases e:a.block=b
   ·rw [e,World.putObj_heap_same hlt,k2]
   rw [World.putObj_heap_other e]
  ·exact World.putObj_heap_other fun e=>hn ⟨id,_,2,hH,by rw [e];exact hι⟩
  by_cases e:j=id
  ·subst e;rw [hH] at hj;cases hj;exact⟨_,h1,aHx _,fun _=>⟨rfl,rfl,fun h=>by cases h⟩⟩
  exact⟨o,(h2 j e).trans hj,aHx _,fun _=>⟨rfl,rfl,fun _=>aHx _⟩⟩
 refine⟨⟨fun c hc=>by rw [World.putObj_size];exact hr.imm c hc,fun j o hj=>?_,fun j j' o o' c d d' hj hj' hc hc'=>?_,hst.glob hr⟩,hst⟩
 ·by_cases e:j=id
  ·subst e;rw [h1] at hj;cases hj;refine .inr (.inr (.inr ⟨rfl,b,y,hι,World.putObj_heap_same hlt,k3,fun z ts r hz=>?_⟩));simp only [LR,List.cons.injEq,AV.raw.injEq,and_true] at hz;obtain ⟨⟨rfl,rfl⟩,rfl⟩:=hz;refine⟨rfl,fun i t a ht ha=>?_⟩;obtain ⟨c,c1,c2⟩:=q2 i t a ht ha;exact⟨c,by rw [hy];exact c1,c2.mono hr hst⟩
  rw [h2 j e] at hj;exact(hr.obj j o hj).keep rfl (fun c d hc _=>⟨World.putObj_heap_other (fun hb=>e (hr.inj j id o _ c d 2 hj hH hc (by rw [hb];exact hι))),fun h=>h⟩) (fun r _ a _ v hv=>hv.mono hr hst)
 have key:∀ j o,H'.get j=some o→∃ o,H.get j=some o:=fun j o hj=>by
  by_cases e:j=id
  ·subst e;exact⟨_,hH⟩
  exact⟨o,(h2 j e).symm.trans hj⟩
 obtain ⟨q,hq⟩:=key j o hj;obtain ⟨q',hq'⟩:=key j' o' hj';exact hr.inj j j' q q' c d d' hq hq' hc hc'
theorem Rel.push (o:Obj) (hr:Rel I ι H w):Rel I ι H (w.alloc o)∧Step I ι H w I ι H (w.alloc o):=by
 have hk:∀ b,b < w.heap.size→(w.alloc o).heap[b]?=w.heap[b]?:=fun b hb=>by
  show (w.heap.push o)[b]?=_;rw [Array.getElem?_push,aHp (Nat.ne_of_lt hb)]
 have hst:Step I ι H w I ι H (w.alloc o):=by
  refine⟨rfl,rfl,rfl,by rw [World.size_alloc];omega,fun a ha _=>?_,fun _ h=>h,fun _ h=>.inl h,fun _ h=>.inl h,fun b hb _=>hk b hb,fun _ o h=>⟨o,h,aHx _,fun _=>⟨rfl,rfl,fun _=>aHx _⟩⟩⟩;unfold World.frozen?;rw [hk _ ha]
 refine⟨⟨fun b hb=>by have:=hr.imm b hb;rw [World.size_alloc];omega,fun j o hj=>?_,hr.inj,hst.glob hr⟩,hst⟩;exact(hr.obj j o hj).keep rfl (fun b c _ hb=>⟨hk b hb,fun h=>h⟩) (fun r _ a _ v hv=>hv.mono hr hst)
end
def busy (x:Go.Loop):Go.Loop:={x with state:=.busy}
def left (x:Go.Loop) (c:Code):Go.Loop:={x with state:=.done,pending:=some c}
def aF9 (H0:aE) (id:Nat) (x:Go.Loop) (E0:bZ) (Q:AV→aE→Prop):Exit→bZ→aE→Prop
 | .normal,E,H=>∃ K,cC H0 E H [] ((id,LR (busy x) E0)::K)∧Q (.pv (.bool true)) ((id,LR x E0)::K)
 | .ret,E,H=>∃ K,cC H0 E H [] ((id,LR (busy x) E0)::K)∧Q (.pv (.bool false)) ((id,LR (left x .ret) E0)::K)
 | .exit j,E,H=>∃ K,cC H0 E H [] ((id,LR (busy x) E0)::K)∧Q (.pv (.bool false)) ((id,LR (left x (.exit j)) E0)::K)
 | _,_,_=>False
theorem zI {G:Entry} {I:Nat→Prop} {ι:eE} {H:aE} {w:World} {id b:Nat} {x y:Go.Loop} {E0:bZ} (hst:Step G.I G.ι G.H G.w I ι H w) (hG:G.H.get id=some (LR x E0)) (hι:G.ι id=some (b,2)) (hH:H.get id=some (LR y E0)):ι id=some (b,2):=by obtain ⟨o',e1,_,e3⟩:=hst.objs id _ hG;rw [hH] at e1;cases e1;exact(e3 rfl).1.trans hι
theorem A2 {I:Nat→Prop} {ι:eE} {H:aE} {w:World} {id b:Nat} {x:Go.Loop} {E0:bZ} (hr:Rel I ι H w) (hH:H.get id=some (LR x E0)) (hι:ι id=some (b,2)):w.heap[b]?=some (.loop x):=by obtain ⟨_,b',z,k1,k2,k3,k4⟩:=(hr.obj id _ hH).rec rfl hι;rw [hι] at k1;cases k1;obtain ⟨q1,_⟩:=k4 x _ _ rfl;subst q1;exact k2
theorem lL (id:Nat) (o:Ob) (K:aE):aE.get ((id,o)::K) id=some o:=by simp [aE.get,iZ]
theorem G5 {id j:Nat} (o o':Ob) (K:aE) (h:j≠id):aE.get ((id,o)::K) j=aE.get ((id,o')::K) j:=by simp [aE.get,lP (Ne.symm h)]
theorem LH {P:Program} {id p N:Nat} {x:Go.Loop} {assign body:Code} {E0:bZ} {a:AV} {K:aE} {Q:AV→aE→Prop} (E2:bZ) (K2:aE) (hx1:x.state=.ready) (hx2:x.pending=none) (hp:x.params=#[p]) (hN:x.tmps.size=N) (hxa:x.assign=assign) (hxb:x.body=body) (hpN:Nat.blt p N=true)
  (hok:iG assign=true) (hok2:iG body=true)
  (h1:iF P ((id,LR x E0)::K) N assign (sG (fun E1 H1=>cC ((id,LR x E0)::K) E1 H1 E2 ((id,LR x E0)::K2)) (fun _ _ _=>False)) ((p,a)::E0) ((id,LR x E0)::K))
  (h2:iF P ((id,LR x E0)::K) N body (aF9 ((id,LR x E0)::K) id x E0 Q) E2 ((id,LR (busy x) E0)::K2)):DP P id 0 [a] ((id,LR x E0)::K) Q:=by
 subst hxa hxb;have hpN:p < N:=by simpa [Nat.blt_eq] using hpN
 intro I ι w vs v hr hv hl hvs;obtain ⟨b,e1,e2,e3,e4,e5⟩:=aEw hr (lL _ _ _) hv;obtain ⟨u,rfl⟩:∃ u,vs=#[u]:=by
  match vs,hl with
  | ⟨[u]⟩,_=>exact⟨u,rfl⟩
 have hu:=hvs 0 u a rfl rfl;refine⟨b,x.fn,_,x.assign,x.body,e2,run_yield e3 (by rw [hp];rfl),?_⟩;refine roundIn_of_wpIn (F:=Fence.wide) trivial ?_;have hG:(⟨I,ι,(id,LR x E0)::K,w⟩:Entry).H=(id,LR x E0)::K:=rfl;have hst:St ⟨I,ι,(id,LR x E0)::K,w⟩ N ((p,a)::E0) ((id,LR x E0)::K) {tmps:=(x.params.zip #[u]).foldl (fun tmps (t,a)=>tmps.setIfInBounds t a) x.tmps,defers:=[]} w:=by
  have ht:(x.params.zip #[u]).foldl (fun tmps (t,a)=>tmps.setIfInBounds t a) x.tmps=x.tmps.setIfInBounds p u:=by rw [hp];simp
  rw [ht];refine⟨xC.nil _ _,by simp [hN],I,ι,hr,Step.refl _ _ _ _,fun t y hy=>?_⟩;by_cases e:p=t
  ·subst e;rw [bZ.get_cons_same] at hy;cases hy;exact⟨u,by simp [hN,hpN],hu⟩
  rw [bZ.get_cons_other _ _ e] at hy;obtain ⟨i,hi⟩:=aIM.1 (hY hy);obtain ⟨c,c1,c2⟩:=e5 i t y (by rw [aIL,hi];rfl) (by rw [aIL,hi];rfl);exact⟨c,by show (x.tmps.setIfInBounds p u)[t]?=some c;rw [Array.getElem?_setIfInBounds_ne e];exact c1,c2⟩
 refine wpIn_mono (h1 _ hG _ w hst (some b) (.inr hok)) ?_;rintro e a1 w1 ⟨E1,H1,q,hs1⟩;cases e with
 | normal =>
  have hs2:=q _ hG N a1 w1 hs1;obtain ⟨I1,ι1,hr1,hst1,he1⟩:=hs2.rel;have hι1:=zI hst1 (lL _ _ _) e1 (lL _ _ _);have hb1:=A2 hr1 (lL _ _ _) hι1;obtain ⟨k1,k2⟩:=hr1.setRec (y:=busy x) (H':=(id,LR (busy x) E0)::K2) (lL _ _ _) hι1 rfl (lL _ _ _) (fun j hj=>G5 _ _ _ hj);refine⟨_,run_beginRound hb1 hx1,?_⟩;have hs3:St ⟨I,ι,(id,LR x E0)::K,w⟩ N E2 ((id,LR (busy x) E0)::K2) a1 (w1.putObj b (.loop (busy x))) :=
   ⟨hs2.defers.step hr1 k2,hs2.size,I1,ι1,k1,hst1.trans k2,fun t y hy=>let ⟨c,c1,c2⟩:=he1 t y hy;⟨c,c1,c2.mono hr1 k2⟩⟩
  refine wpIn_mono (h2 _ hG a1 _ hs3 (some b) (.inr hok2)) ?_;rintro e a2 w3 ⟨E3,H3,q3,hs4⟩;have fin:∀ (jump:Option Code) (y:Go.Loop) (K3:aE),y={busy x with state:=if jump.isNone then .ready else .done,pending:=jump}→cC ((id,LR x E0)::K) E3 H3 [] ((id,LR (busy x) E0)::K3)→Q (.pv (.bool jump.isNone)) ((id,LR y E0)::K3) →
    ∃ v w',(Instr.endRound b jump).run P w3=.ok v w'∧∃ r H' I' ι' v',Ending.returned v=.returned v'∧Q r H'∧VRel w' I' ι' H' v' r∧Rel I' ι' H' w'∧Step I ι ((id,LR x E0)::K) w I' ι' H' w':=by
   intro jump y K3 hy hent hQ;have hs5:=hent _ hG N a2 w3 hs4;obtain ⟨I5,ι5,hr5,hst5,_⟩:=hs5.rel;have hι5:=zI hst5 (lL _ _ _) e1 (lL _ _ _);have hb5:=A2 hr5 (lL _ _ _) hι5;obtain ⟨z1,z2⟩:=hr5.setRec (y:=y) (H':=(id,LR y E0)::K3) (lL _ _ _) hι5 (by rw [hy]) (lL _ _ _) (fun j hj=>G5 _ _ _ hj);refine⟨_,_,run_endRound jump hb5,_,_,I5,ι5,_,rfl,hQ,.pv (.bool _),?_,?_⟩
   ·rw [← hy];exact z1
   rw [← hy];exact hst5.trans z2
  cases e with
  | normal =>
   obtain ⟨K3,hent,hQ⟩:=q3;refine fin none x K3 ?_ hent hQ;obtain ⟨st,pe,fn,tm,pa,ax,bo,de⟩:=x;simp only at hx1 hx2;subst hx1 hx2;rfl
  | ret =>
   obtain ⟨K3,hent,hQ⟩:=q3;exact fin (some .ret) (left x .ret) K3 rfl hent hQ
  | exit j =>
   obtain ⟨K3,hent,hQ⟩:=q3;exact fin (some (.exit j)) (left x (.exit j)) K3 rfl hent hQ
  | goto l=>exact q3.elim
  | panic ch=>exact q3.elim
  | outgrown=>exact q3.elim
 | exit j=>exact q.elim
 | goto l=>exact q.elim
 | ret=>exact q.elim
 | panic ch=>exact q.elim
 | outgrown=>exact q.elim
def aFa (Q:Exit→bZ→aE→Prop) (E:bZ) (H:aE):Option Code→Prop
 | none=>Q .normal E H
 | some .ret=>Q .ret E H
 | some (.exit j)=>Q (.exit j) E H
 | _=>False
theorem DN {P:Program} {G0:aE} {N f id p:Nat} {caps:List AV} {g:Operand} {ps:Array Tmp} {assign body:Code} {Q:Exit→bZ→aE→Prop} {E:bZ} {H:aE} (E0:bZ) (hg:aS E g=some (.clo f caps)) (hc:∀ (args:Array Value) (w:World),(callFunc f args).run P w=.ok (.enter f args) w)
  (hps:ps=#[p]) (hid:H.get id=none) (hE0:∀ q∈E0,E.get q.1=some q.2)
  (h:∀ x:Go.Loop,x.state=.ready→x.pending=none→x.params=#[p]→x.tmps.size=N→x.assign=assign→x.body=body →
   aK P f (.yld id 0::caps) ((id,LR x E0)::H) (fun r H'=>∃ (y:Go.Loop) (K:aE),y.tmps=x.tmps∧y.state≠.busy∧H'=(id,LR y E0)::K∧∀ z:Go.Loop,aFa Q E ((id,LR z E0)::K) y.pending)) :
  iF P G0 N (.rangeFunc g ps assign body) Q E H:=by
 intro G hG a w hs ro hro;obtain rfl:ro=none:=hro.resolve_right (fun h=>by cases h);obtain ⟨I,ι,hr,hst,he⟩:=hs.rel;refine wpIn_rangeFunc (F:=RF none) ?_;intro fn _;have hgv:=aN he hg;generalize hfc:a.eval g=fc at hgv;cases hgv with
 | @clo _ us _ hl hh =>
  obtain ⟨x,hx⟩:∃ x:Go.Loop,x={state:=.ready,pending:=none,fn,tmps:=a.tmps,params:=ps,assign,body,defers:=w.heap.size}:=⟨_,rfl⟩;obtain ⟨a1,a2⟩:=hr.push (.deferred (some []));obtain ⟨wd,hwd⟩:∃ wd,wd=w.alloc (.deferred (some [])):=⟨_,rfl⟩;rw [← hwd] at a1 a2;have hwds:wd.heap.size=w.heap.size+1:=by rw [hwd,World.size_alloc]
  have hDd:wd.heap[w.heap.size]?=some (.deferred (some [])):=by rw [hwd];exact World.alloc_heap_new w _
  have hidH:aE.get ((id,LR x E0)::H) id=some (LR x E0):=lL _ _ _;obtain ⟨b1,b2⟩:=a1.placeX (id:=id) (cap:=2) (x:=.loop x) (w':=wd.alloc (.loop x)) (H':=(id,LR x E0)::H) (ob':=LR x E0) rfl rfl rfl rfl (fun o ho=>by rw [hid] at ho;cases ho)
   (fun hnew hI hmono=>.inr (.inr (.inr ⟨rfl,_,x,by simp,hnew,hI,fun y ts r hy=>by
    simp only [LR,List.cons.injEq,AV.raw.injEq,and_true] at hy;obtain ⟨⟨rfl,rfl⟩,rfl⟩:=hy;refine⟨rfl,fun i t v ht hv=>?_⟩;rw [aIL] at ht hv;obtain ⟨q,hq,rfl⟩:=Option.map_eq_some_iff.1 ht;rw [hq] at hv;cases hv;obtain ⟨c,c1,c2⟩:=he q.1 q.2 (hE0 q (aIB hq));exact⟨c,by rw [hx];exact c1,hmono _ _ (c2.mono hr a2)⟩⟩)))
   hidH (fun j hj=>by simp [aE.get,lP (Ne.symm hj)])
  obtain ⟨w1,hw1⟩:∃ w1,w1=wd.alloc (.loop x):=⟨_,rfl⟩;rw [← hw1] at b1 b2;obtain ⟨ι1,hι1⟩:∃ ι1:eE,ι1=fun j=>if j=id then some (wd.heap.size,2)else ι j:=⟨_,rfl⟩
  rw [← hι1] at b1 b2;have hιid:ι1 id=some (w.heap.size+1,2):=by rw [hι1,hwds];simp
  have hL1:=A2 b1 hidH hιid;have hD1:w1.heap[w.heap.size]?=some (.deferred (some [])):=by
   rw [b2.keep _ (by rw [hwds];omega) (BA a1 hDd)];exact hDd
  have hcall:=h x (by rw [hx]) (by rw [hx]) (by rw [hx,hps]) (by rw [hx];exact hs.size) (by rw [hx]) (by rw [hx]) I ι1 w1 (#[.func (.yield (w.heap.size+1)) #[] #[]]++us) b1 (by simp [hl];omega) (fun i v c hv hc'=>by
   cases i with
   | zero =>
    rw [Array.getElem?_append_left (by simp)] at hv;simp at hv hc';subst hv hc';exact .yld (LR x E0) hidH (aHx _) rfl (fun _=>⟨rfl,_,hιid,rfl⟩)
   | succ i =>
    rw [Array.getElem?_append_right (by simp)] at hv;simp only [List.getElem?_cons_succ] at hc';have:=hh i v c (by simpa using hv) hc';exact(this.mono hr a2).mono a1 b2)
  refine⟨w.heap.size+1,[mark w.heap.size],w1,{target:=.fn (.func f) us,args:=#[.func (.yield (w.heap.size+1)) #[] #[]]},w1,f,#[.func (.yield (w.heap.size+1)) #[] #[]]++us,w1,?_,?_,fun _ _=>trivial,?_,(fun q=>by cases q),?_⟩
  ·rw [hw1,hwd,hx];exact run_enterLoop_outer _ _ _ _ _
  ·simp only [resolve,hfc];simp [go_sem]
  ·simp [invoke,go_sem,hc]
  refine((callsIn_wide (n:=0)).2 hcall).mono ?_;rintro e w3 ⟨r,H',I3,ι3,v3,rfl,⟨y,K,hy1,hy2,rfl,hq⟩,_,hr3,hst3⟩;have hι3:=zI (G:=⟨I,ι1,(id,LR x E0)::H,w1⟩) hst3 hidH hιid (lL _ _ _);have hb3:=A2 hr3 (lL _ _ _) hι3;obtain ⟨z,hz⟩:∃ z:Go.Loop,z={y with state:=.exhausted}:=⟨_,rfl⟩;obtain ⟨z1,z2⟩:=hr3.setRec (y:=z) (H':=(id,LR z E0)::K) (lL _ _ _) hι3 (by rw [hz]) (lL _ _ _) (fun j hj=>G5 _ _ _ hj);obtain ⟨w4,hw4⟩:∃ w4,w4=w3.putObj (w.heap.size+1) (.loop z):=⟨_,rfl⟩;rw [← hw4] at z1 z2;refine⟨y.pending,w4,by rw [hw4,hz];exact run_endLoop hb3 hy2,?_⟩;have hall:Step I ι H w I3 ι3 ((id,LR z E0)::K) w4:=((a2.trans b2).trans hst3).trans z2;have hD4:w4.heap[w.heap.size]?=some (.deferred (some [])):=by
   rw [(hst3.trans z2).keep _ (Array.getElem?_eq_some_iff.1 hD1).1 (BA b1 hD1)];exact hD1
  have hs4:St G N E ((id,LR z E0)::K) {a with defers:=[mark w.heap.size]++a.defers} w4:=by
   refine⟨?_,hs.size,I3,ι3,z1,hst.trans hall,fun t v hv=>let ⟨c,c1,c2⟩:=he t v hv;⟨c,c1,c2.mono hr hall⟩⟩;obtain ⟨Ds,d1,d2,d3⟩:=hs.defers.step hr hall;refine⟨w.heap.size::Ds,by rw [d1];rfl,List.nodup_cons.2 ⟨fun hmem=>?_,d2⟩,fun D hD=>?_⟩
   ·have hold:∀ D∈Ds,D < w.heap.size:=by
     obtain ⟨Ds',d1',_,d3'⟩:=hs.defers;have he:Ds'=Ds:=by
      have h0:Ds'.map mark=Ds.map mark:=by rw [← d1',← d1]
      have hinj:∀ (l l':List Nat),l.map mark=l'.map mark→l=l':=by
       intro l
       induction l with
       | nil=>intro l' h;cases l' with
        | nil=>rfl
        | cons _ _=>cases h
       | cons D l ih=>intro l' h;cases l' with
        | nil=>cases h
        | cons D' l' =>
         simp only [List.map_cons,List.cons.injEq,mark,Deferred.mk.injEq,Target.collected.injEq,and_true] at h;rw [h.1,ih l' h.2]
      exact hinj _ _ h0
     subst he;exact fun D hD=>(Array.getElem?_eq_some_iff.1 (d3' D hD).2).1
    exact Nat.lt_irrefl _ (hold _ hmem)
   rcases aID.1 hD with rfl|hD
   ·exact⟨hst.size,hD4⟩
   exact d3 D hD
  have hq':=hq z;generalize y.pending=pend at hq' ⊢
  match pend,hq' with
  | none,hq'=>exact⟨E,_,hq',hs4⟩
  | some .ret,hq'=>exact wpIn_ret ⟨E,_,hq',hs4⟩
  | some (.exit j),hq'=>exact wpIn_exit ⟨E,_,hq',hs4⟩
end
theorem aK.congrG {P:Program} {f:FuncId} {args:List AV} {H H1 K K1:aE} {r0:AV} (h:aK P f args H1 (fun r X=>r=r0∧X=K1)) (he:∀ j,H1.get j=H.get j) (hk:∀ j,K.get j=K1.get j):aK P f args H (fun r X=>r=r0∧X=K):=by intro I ι w vs hr hl hv;obtain ⟨p1,p2⟩:=hr.congr he;refine(h I ι w vs p1 hl (fun i v a h1 h2=>(hv i v a h1 h2).mono hr p2)).mono ?_;rintro e w' ⟨r,H',I',ι',v,rfl,⟨rfl,rfl⟩,k1,k2,k3⟩;obtain ⟨q1,q2⟩:=k2.congr hk;exact⟨r,K,I',ι',v,rfl,⟨rfl,rfl⟩,k1.mono k2 q2,q1,(p2.trans k3).trans q2⟩
theorem DP.congrG {P:Program} {id g:Nat} {args:List AV} {H H1 K K1:aE} {r0:AV} (h:DP P id g args H1 (fun r X=>r=r0∧X=K1)) (he:∀ j,H1.get j=H.get j) (hk:∀ j,K.get j=K1.get j):DP P id g args H (fun r X=>r=r0∧X=K):=by intro I ι w vs v hr hvy hl hv;obtain ⟨p1,p2⟩:=hr.congr he;obtain ⟨l,f,tmps,assign,body,e1,e2,e3⟩:=h I ι w vs v p1 (hvy.mono hr p2) hl (fun i v a h1 h2=>(hv i v a h1 h2).mono hr p2);refine⟨l,f,tmps,assign,body,e1,e2,e3.mono ?_⟩;rintro e w' ⟨r,H',I',ι',v,rfl,⟨rfl,rfl⟩,k1,k2,k3⟩;obtain ⟨q1,q2⟩:=k2.congr hk;exact⟨r,K,I',ι',v,rfl,⟨rfl,rfl⟩,k1.mono k2 q2,q1,(p2.trans k3).trans q2⟩
theorem iL.congrG {P:Program} {fv:AV} {args:List AV} {H H1 K K1:aE} {r0:AV} (h:iL P fv args H1 (fun r X=>r=r0∧X=K1)) (he:∀ j,H1.get j=H.get j) (hk:∀ j,K.get j=K1.get j):iL P fv args H (fun r X=>r=r0∧X=K):=by
 rcases h with⟨id,g,e,h⟩|⟨F,caps,e,hc,h⟩
 ·exact .inl ⟨id,g,e,h.congrG he hk⟩
 exact .inr ⟨F,caps,e,hc,h.congrG he hk⟩
theorem BV {i j:Nat} {a b:Ob} {K:aE} (h:i≠j) (k:Nat):aE.get ((i,a)::(j,b)::K) k=aE.get ((j,b)::(i,a)::K) k:=by
 simp only [aE.get];cases e1:Nat.beq i k with
 | true =>
  have:=Nat.eq_of_beq_eq_true e1;subst this;rw [lP (Ne.symm h)];rfl
 | false=>cases e2:Nat.beq j k<;>rfl
end Go.Abs
namespace Go.Abs
open Go.Lib
section
section
variable {P:Program} {N:Nat} {o:Oper} {E:bZ} {H:aE} {T S:TypeId} {x y:Operand}
theorem tZ {w:World} {I:Nat→Prop} {ι:eE} (s:ByteArray):pQ w I ι H 1 (strCells s) (bP s.data.toList):=by
 intro i r hi k a hk;rw [bP,aIL] at hi;obtain ⟨b,hb,rfl⟩:=Option.map_eq_some_iff.1 hi;cases k with
 | zero =>
  cases hk;exact⟨.int .u8 b.toNat,by rw [strCells,Nat.mul_one,Nat.add_zero,aIL,hb];rfl,rfl,.pv (.int _ _)⟩
 | succ k=>simp at hk
theorem GL {e:TypeId} {id g n:Nat} {ob:Ob} {s:ByteArray} {H2:aE} (ho:o.op=.call {callee:=.builtin .append,args:=#[x,y],argTypes:=#[T,S]}) (hT:P.underlying T=some (.slice e)) (hS:P.underlying S=some .string) (hinf:Q5 P e 1 1) (hz0:∀ i,P.info? e=some i→i.zero=some (.int .u8 0))
  (hx:aS E x=some (.osl id g 0 n)) (hH:H.get id=some ob) (hg:ob.g=g) (hosz:ob.sz=1) (hty:ob.ty=e) (hn:ob.rows.length=n)
  (hy:aS E y=some (.pv (.str s))) (hmax:n+s.size≤140737488355328)
  (hH2:H.set id ⟨g+1,1,e,ob.rows++bP s.data.toList⟩=H2):bS P N o E H (.osl id (g+1) 0 (n+s.size)) H2:=by
 intro a w I ι _ _ hr he K Q hk;obtain ⟨i,z,hi,hz,hsize,hby,hzs,hsz0⟩:=hinf;have hzi:=hz0 i hi;subst hg hty hn hH2;have hlen2:(bP s.data.toList).length=s.size:=by simp [bP]
 have hml:ob.rows.length+s.size≤maxLen:=by simp only [maxLen];omega
 have h1:(H.set id ⟨ob.g+1,1,ob.ty,ob.rows++bP s.data.toList⟩).get id=some ⟨ob.g+1,1,ob.ty,ob.rows++bP s.data.toList⟩:=aE.get_set_same _ _ _;have h2:∀ j,j≠id→(H.set id ⟨ob.g+1,1,ob.ty,ob.rows++bP s.data.toList⟩).get j=H.get j:=fun j hj=>aE.get_set_other _ _ hj;have hpos:0 < ob.sz:=mC (aN he hx) hH rfl;have p2:=((hr.obj id ob hH).cells hpos).2.1;rw [hosz] at p2;have hrl:∀ r∈ob.rows++bP s.data.toList,r.length=1:=fun r hr'=>by
  rcases List.mem_append.1 hr' with h|h
  ·exact p2 r h
  obtain ⟨b,_,rfl⟩:=List.mem_map.1 h;rfl
 have hys:=(aN he hy).str_inv;have fin:∀ (v':Value) (w':World) (ι':eE),(Builtin.append_ #[T,S] o.type #[a.eval x,.string s]).run P w=.ok v' w'→VRel w' I ι' (H.set id ⟨ob.g+1,1,ob.ty,ob.rows++bP s.data.toList⟩) v' (.osl id (ob.g+1) 0 (ob.rows.length+s.size)) →
   Rel I ι' (H.set id ⟨ob.g+1,1,ob.ty,ob.rows++bP s.data.toList⟩) w'→Step I ι H w I ι' (H.set id ⟨ob.g+1,1,ob.ty,ob.rows++bP s.data.toList⟩) w'→o.wpW P a w K Q:=by
  intro v' w' ι' hrun k1 k2 k3;unfold Oper.wpW execOp;simp only [ho,resolve,invoke,builtin,Sem.run_bind,Sem.run_pure,Result.andThen_ok,List.map_toArray,List.map_cons,List.map_nil,hys,hrun];exact hk v' w' I ι' _ _ ⟨rfl,rfl⟩ k1 k2 k3
 have hvx:=aN he hx;obtain ⟨_,hcase⟩:=gJ hvx hH rfl;rcases hcase with⟨b,cap,oo,c1,c2,c3⟩|⟨c1,c2,_,c4⟩
 ·obtain ⟨p1,_,⟨b',cap',cs,e1,e2,e3,e4,e5,e5',e6⟩|⟨e1,_⟩⟩:=(hr.obj id ob hH).cells hpos
  ·rw [c1] at e1;cases e1;rw [hosz] at e4 e6;have hoo:oo=0:=by rw [c3 (by omega)];simp
   subst hoo;rw [Nat.sub_zero] at c2;have olds:pQ w I ι H 1 (cs.toList.take (ob.rows.length*1)) ob.rows:=by
    intro i' r hi' k a' hk';obtain ⟨u,q1,q2,q3⟩:=e6 i' r hi' k a' hk';have hk2:k < 1:=by rw [← p2 r (aIB hi')];exact(aHv.1 hk').1
    have hi2:i' < ob.rows.length:=(aHv.1 hi').1;exact⟨u,by rw [List.getElem?_take,aHq (by omega)];simpa using q1,q2,q3⟩
   have holen:(cs.toList.take (ob.rows.length*1)).length=ob.rows.length*1:=by simp;omega
   have hslen:(strCells s).length=s.size:=strCells_length s;by_cases hroom:ob.rows.length+s.size≤cap
   ·have hrun:=run_append_room_string (P:=P) w T S o.type ob.ty i hT hS hi hsize b ob.rows.length cap cs e2 s hroom (by omega);obtain ⟨k2,k3⟩:=Rel.update (H':=H.set id ⟨ob.g+1,1,ob.ty,ob.rows++bP s.data.toList⟩) (ob':=⟨ob.g+1,1,ob.ty,ob.rows++bP s.data.toList⟩)
     (cs':=(cs.toList.take ob.rows.length++strCells s++cs.toList.drop (ob.rows.length+s.size)).toArray) hr hH c1 e2 (by simp) hosz.symm rfl (fun e=>by simp at e) (by
      simp only [List.size_toArray,aHs,aIF,aIG,Array.length_toList,hslen,hosz];omega) (by simp only [aHs,hlen2];exact hroom) (by rw [hosz];exact hrl) (fun i' r hi' k a' hk'=>by
       have:=pQ.app (l3:=cs.toList.drop (ob.rows.length+s.size)) olds holen (tZ (H:=H) s) i' r hi' k a' hk';rw [hosz]
       simpa [List.append_assoc] using this) h1 h2
    exact fin _ _ ι (by rw [c2];exact hrun) (.osl _ h1 (aHx _) rfl fun _=>⟨Nat.zero_lt_one,by simp [hlen2],.inl ⟨b,cap,0,c1,by simp,fun _=>by simp⟩⟩) k2 k3
   have holds:∀ j v,(cs.toList.take ob.rows.length)[j]?=some v→w.cell? ((⟨b,0,none⟩:Addr).add j)=some v:=by
    intro j v hv;rw [Addr.add_lit,aIJ,cell_of_row w b _ cs ob.ty (0,0) e2];rw [List.getElem?_take] at hv
    split at hv
    ·simpa using hv
    cases hv
   have hrun:=run_append_grow_string (P:=P) w T S o.type ob.ty i (.int .u8 0) hT hS hi hzi ⟨b,0,none⟩ ob.rows.length cap _ (by rw [hsize];simpa using holen) holds s (by omega) (by omega) (growslice_fits (by omega) (by rw [hby];omega));have hge:=grownCap_ge w (ob.rows.length+s.size) cap ob.ty;have hcm:=grownCap_le_maxLen w (ob.rows.length+s.size) cap ob.ty hml;have hz1:(Value.int IntKind.u8 0).cells.size=1:=rfl;obtain ⟨k2,k3⟩:=Rel.place (H':=H.set id ⟨ob.g+1,1,ob.ty,ob.rows++bP s.data.toList⟩) (id:=id) (cap:=grownCap w (ob.rows.length+s.size) cap ob.ty) (ob':=⟨ob.g+1,1,ob.ty,ob.rows++bP s.data.toList⟩)
    (cs':=(cs.toList.take ob.rows.length).toArray++(strCells s).toArray++Builtin.zeroCells (Value.int .u8 0).cells (grownCap w (ob.rows.length+s.size) cap ob.ty - (ob.rows.length+s.size)))
    (w':=w.drew.alloc (.cells ((cs.toList.take ob.rows.length).toArray++(strCells s).toArray++Builtin.zeroCells (Value.int .u8 0).cells (grownCap w (ob.rows.length+s.size) cap ob.ty - (ob.rows.length+s.size))) ob.ty)) hr rfl rfl rfl rfl
    (fun o' ho'=>by rw [hH] at ho';cases ho';simp) Nat.zero_lt_one (by
     simp only [Array.size_append,List.size_toArray,size_zeroCells,hz1,hslen,aIF,Array.length_toList];omega) (by simp only [aHs,hlen2];exact hge) hcm hrl (fun i' r hi' k a' hk'=>by
      obtain ⟨u,q1,q2,q3⟩:=pQ.app (l3:=(Builtin.zeroCells (Value.int .u8 0).cells (grownCap w (ob.rows.length+s.size) cap ob.ty - (ob.rows.length+s.size))).toList) olds holen (tZ (H:=H) s) i' r hi' k a' hk';refine⟨u,?_,q2,q3⟩;rw [← Array.getElem?_toList]
      simpa [List.append_assoc] using q1) h1 h2
   exact fin _ _ _ (by rw [c2];exact hrun) (.osl _ h1 (aHx _) rfl fun _=>⟨Nat.zero_lt_one,by simp [hlen2],.inl ⟨w.heap.size,_,0,by simp;rfl,by simp,fun _=>by simp⟩⟩) k2 k3
  rw [c1] at e1;cases e1
 have hnil:ob.rows=[]:=List.eq_nil_of_length_eq_zero c4;by_cases h0:s.size=0
 ·have hb0:bP s.data.toList=[]:=List.eq_nil_of_length_eq_zero (by rw [hlen2];exact h0);have hrun:(Builtin.append_ #[T,S] o.type #[.slice none 0 0,.string s]).run P w=.ok (.slice none 0 0) w:=by
   have hf:=run_firstCells_string (P:=P) w 1 s;rw [h0] at hf;simp [Builtin.append_,run_underlying hT,run_underlying hS,sizeOf,typeInfo,hi,hsize,Builtin.lenOf,h0,hf]
  obtain ⟨k2,k3⟩:=Rel.tick (H':=H.set id ⟨ob.g+1,1,ob.ty,ob.rows++bP s.data.toList⟩) (ob':=⟨ob.g+1,1,ob.ty,ob.rows++bP s.data.toList⟩) hr hH (by simp) hosz.symm rfl (by simp [hb0]) h1 h2;exact fin _ _ ι (by rw [c2];exact hrun) (.osl _ h1 (aHx _) rfl fun _=>⟨Nat.zero_lt_one,by simp [hlen2],.inr ⟨c1,rfl,rfl,by simp [hnil,h0]⟩⟩) k2 k3
 have hr0:=run_append_nil_string (P:=P) w T S o.type ob.ty i (.int .u8 0) hT hS hi hzi s (by omega) (by omega) (by rw [hby];omega);have hslen:(strCells s).length=s.size:=strCells_length s;have e1:(s.data.map fun b=>Value.int .u8 b.toNat)=(strCells s).toArray:=by
  apply Array.ext';simp [strCells]
 rw [e1] at hr0;have hml0:s.size≤maxLen:=by omega
 have hge:=grownCap_ge w s.size 0 ob.ty;have hcm:=grownCap_le_maxLen w s.size 0 ob.ty hml0;have hz1:(Value.int IntKind.u8 0).cells.size=1:=rfl;obtain ⟨k2,k3⟩:=Rel.place (H':=H.set id ⟨ob.g+1,1,ob.ty,ob.rows++bP s.data.toList⟩) (id:=id) (cap:=grownCap w s.size 0 ob.ty) (ob':=⟨ob.g+1,1,ob.ty,ob.rows++bP s.data.toList⟩)
  (cs':=(strCells s).toArray++Builtin.zeroCells (Value.int .u8 0).cells (grownCap w s.size 0 ob.ty - s.size))
  (w':=w.drew.alloc (.cells ((strCells s).toArray++Builtin.zeroCells (Value.int .u8 0).cells (grownCap w s.size 0 ob.ty - s.size)) ob.ty)) hr rfl rfl rfl rfl
  (fun o' ho'=>by rw [hH] at ho';cases ho';simp) Nat.zero_lt_one (by
   simp only [Array.size_append,List.size_toArray,size_zeroCells,hz1,hslen];omega) (by simp only [aHs,hlen2,hnil,List.length_nil,aIJ];exact hge) hcm hrl (fun i' r hi' k a' hk'=>by
    simp only [hnil,List.nil_append] at hi';obtain ⟨u,q1,q2,q3⟩:=tZ (w:=w) (I:=I) (ι:=ι) (H:=H) s i' r hi' k a' hk';have hlt:=(aHv.1 q1).1;refine⟨u,?_,q2,q3⟩;rw [Array.getElem?_append_left (by simpa using hlt)]
    simpa using q1) h1 h2
 exact fin _ _ _ (by rw [c2];exact hr0) (.osl _ h1 (aHx _) rfl fun _=>⟨Nat.zero_lt_one,by simp [hlen2],.inl ⟨w.heap.size,_,0,by simp;rfl,by simp [hnil],fun _=>by simp⟩⟩) k2 k3
theorem nA {e:TypeId} {id g n k:Nat} {ob:Ob} {s:ByteArray} {rows':List (List AV)} (ho:o.op=.call {callee:=.builtin .append,args:=#[x,y],argTypes:=#[T,S]}) (hSl:fP P T e 1) (hS:P.underlying S=some .string) (hinf:EI P e 1 1) (hz0:∀ i,P.info? e=some i→i.zero=some (.int .u8 0))
  (hx:aS E x=some (.osl id g 0 n)) (hH:H.get id=some ob) (hg:ob.g=g) (hosz:ob.sz=1) (hty:ob.ty=e) (hn:ob.rows.length=n)
  (hy:aS E y=some (.pv (.str s))) (hmax:n+s.size≤140737488355328) (hk:n+s.size=k) (hrows:ob.rows++bP s.data.toList=rows') :
  bS P N o E H (.osl id (g+1) 0 k) ((id,⟨g+1,1,e,rows'⟩)::H):=by
 subst hk hrows;exact bS.congr (GL ho hSl.1 hS hinf.1 hz0 hx hH hg hosz hty hn hy hmax rfl) (fun j=>nE _ _ _ j)
end
end
theorem Clo.up {H H':aE} (hs:∀ i,(H.get i).isSome=true→(H'.get i).isSome=true) {a:AV} (h:Clo H a):Clo H' a:=by
 induction h with
 | any=>exact .any
 | pv p=>exact .pv p
 | pad rows i k=>exact .pad rows i k
 | ref h=>exact .ref (hs _ h)
 | osl h=>exact .osl (hs _ h)
 | clo h ih=>exact .clo ih
 | agg h ih=>exact .agg ih
 | tup h ih=>exact .tup ih
 | mp h=>exact .mp (hs _ h)
 | it h=>exact .it (hs _ h)
 | yld h=>exact .yld (hs _ h)
 | raw x ts=>exact .raw x ts
 | osc h=>exact .osc (hs _ h)
theorem Clo.app {D K:aE} {a:AV} (h:Clo K a):Clo (D++K) a:=h.up fun i hi=>by
 rw [iR];cases D.get i with
 | none=>exact hi
 | some o=>rfl
theorem bT.app {D K:aE} (h3:∀ p∈D,∀ r∈p.2.rows,∀ a∈r,Clo (D++K) a) (h4:bT K):bT (D++K):=by
 intro id o ho;rw [iR] at ho;cases e:D.get id with
 | some x =>
  rw [e] at ho;cases ho;exact h3 _ (eM e)
 | none =>
  rw [e] at ho;exact fun r hr a ha=>(h4 id o ho r hr a ha).app
def qD (H:aE):aE→Prop
 | []=>True
 | (_,o)::r=>(∀ r∈o.rows,∀ a∈r,Clo H a)∧qD H r
theorem qD.spec {H:aE}:∀ {L:aE},qD H L→∀ p∈L,∀ r∈p.2.rows,∀ a∈r,Clo H a
 | (i,o)::L,h,p,hp=>by
  rcases aID.1 hp with rfl|hp
  ·exact h.1
  exact qD.spec h.2 p hp
theorem bT.ofL {H:aE} (h:qD H H):bT H:=fun _ _ ho=>h.spec _ (eM ho)
def lo (D:aE) (n:Nat):Prop:=∀ p∈D,900≤p.1∧p.1 < n
def clear (K:aE):Prop:=∀ i,900≤i→i < 1000→K.get i=none
theorem Fin.of_ent {G0 H H':aE} {r r':AV} (h:cC G0 [(0,r)] H [(0,r')] H'):Fin G0 H r H' r':=by
 intro G hG I ι w v h1 h2 h3;obtain ⟨_,_,I',ι',k1,k2,k3⟩:=h G hG 1 ⟨#[v],[]⟩ w ⟨xC.nil _ _,rfl,I,ι,h1,h2,fun t x hx=>by
  simp only [bZ.get] at hx;cases e:Nat.beq 0 t with
  | true=>rw [e] at hx;cases hx;rw [← Nat.eq_of_beq_eq_true e];exact⟨v,rfl,h3⟩
  | false=>rw [e] at hx;cases hx⟩
 obtain ⟨c,hc,hv⟩:=k3 0 r' rfl;cases hc;exact⟨I',ι',k1,k2,hv⟩
theorem Sub.front' {D D' K:aE} (h1:∀ p∈D,(D'.get p.1).isSome=true∨K.get p.1=none) (h2:∀ p∈D',D.get p.1=some p.2):Sub (D'++K) (D++K):=by
 intro id o ho;rw [iR] at ho ⊢;cases e:D'.get id with
 | some x =>
  rw [e] at ho;cases ho;rw [h2 _ (eM e)]
 | none =>
  rw [e] at ho;cases e2:D.get id with
  | none=>exact ho
  | some x =>
   rcases h1 _ (eM e2)with h|h
   ·simp only [e] at h;cases h
   rw [h] at ho;cases ho
theorem H7.front' {G0 D D' K:aE} (h2:∀ p∈D',D.get p.1=some p.2) (h5:∀ p∈D,(D'.get p.1).isSome=true∨G0.get p.1=none):H7 G0 (D'++K) (D++K):=by
 intro id hi;rw [iR,iR];cases e:D'.get id with
 | some x=>rw [h2 _ (eM e)]
 | none =>
  cases e2:D.get id with
  | none=>rfl
  | some x =>
   rcases h5 _ (eM e2)with h|h
   ·simp only [e] at h;cases h
   rw [h] at hi;cases hi
theorem Fin.front' {G0 K:aE} {r:AV} (D D':aE) (hr:Clo (D'++K) r) (h1:∀ p∈D,(D'.get p.1).isSome=true∨K.get p.1=none) (h2:∀ p∈D',D.get p.1=some p.2) (h3:∀ p∈D',∀ r∈p.2.rows,∀ a∈r,Clo (D'++K) a) (h4:bT K)
  (h5:∀ p∈D,(D'.get p.1).isSome=true∨G0.get p.1=none):Fin G0 (D++K) r (D'++K) r:=by
 intro G hG I ι w v k1 k2 k3;subst hG;have hsub:=Sub.front' h1 h2;exact⟨I,ι,k1.restrict hsub (bT.app h3 h4),k2.restrict hsub (H7.front' h2 h5),k3.restrict hsub hr⟩
theorem Fin.get' {G0 H H':aE} {r:AV} (hH:∀ j,H'.get j=H.get j):Fin G0 H r H' r:=Fin.of_ent (cC.get' ⟨⟨_,rfl,rfl⟩,trivial⟩ hH)
section
section
variable {P:Program}
def S3 (ob:Ob):Ob:=⟨ob.g+1,ob.sz,ob.ty,[]⟩
def vN (ι:eE) (id:Nat):eE:=fun x=>if x=id then none else ι x
end
end
section
def aBE (v:Value):Prop:=∃ p,v=.pointer p
theorem PN {P:Program} {e:TypeId} {s:Nat} (hc:P.cellsOf e=s+1) (count:Nat) (hn:1≤count):liesAt P P.depth e count 0 e 1=true:=by have hd:P.depth=(2*(P.types.size+Made.depth)+1)+1:=rfl;rw [hd];simp only [liesAt,Bool.or_eq_true];left;rw [hd];simp [rowAt,hc,hn,sameLayout]
theorem JX {I:Nat→Prop} {ι:eE} {H:aE} {w:World} {v:Value} {id g:Nat} {ob:Ob} (hr:Rel I ι H w) (h:VRel w I ι H v (.ref id g 0 0)) (hH:H.get id=some ob) (hg:ob.g=g) (hne:ob.rows≠[]) :
  ∃ b cap,v=.pointer (some ⟨b,0,none⟩)∧w.shape? b=some (ob.ty,cap*ob.sz)∧0 < cap∧0 < ob.sz:=by
 obtain ⟨b,cap,e1,e2⟩:=kY h hH hg;have hz:=F6 h hH hg;obtain ⟨_,_,⟨b',cap',cs,f1,f2,f3,f4,f5,_⟩|⟨f1,_⟩⟩:=(hr.obj id ob hH).cells hz
 ·rw [e1] at f1;cases f1;refine⟨b,cap,by rw [e2];simp,by simp [World.shape?,f2,f4],?_,hz⟩;have:0 < ob.rows.length:=List.length_pos_iff.2 hne;omega
 rw [e1] at f1;cases f1
theorem VRel.sat_inv {w:World} {I:Nat→Prop} {ι:eE} {H:aE} {v:Value} {p:Value→Prop} (h:VRel w I ι H v (.pv (.sat p))):p v:=by
 have:=h.pv_inv;cases this with
 | sat h1 h2=>exact h2
section
variable {P:Program} {N:Nat} {o:Oper} {E:bZ} {H:aE} {S T t t' e:TypeId} {x y:Operand} {id g n:Nat} {ob:Ob}
theorem yA {P:Program} {t:TypeId} {n:Nat} (h:(P.info? t).map (·.size)=some n):∃ j,P.info? t=some j∧j.size=n:=by
 cases hi:P.info? t with
 | none=>rw [hi] at h;cases h
 | some j=>rw [hi] at h;exact⟨j,rfl,Option.some.inj h⟩
theorem II (ho:o.op=.convert S T x) (hS:P.underlying S=some (.pointer t)) (hT:P.underlying T=some .unsafePointer) (hi:(P.info? t).map (·.size)=some (n+1)) (hx:aS E x=some (.ref id g 0 0)) (hH:H.get id=some ob) (hg:ob.g=g) (hne:ob.rows≠[]):bS P N o E H (.ref id g 0 0) H :=.of_run fun a w I ι hr he=>by
  have hv:=aN he hx;obtain ⟨b,cap,e1,e2,e3,e4⟩:=JX hr hv hH hg hne;obtain ⟨j,h1,h2⟩:=yA hi;rw [e1] at hv;have hpos:0 < cap*ob.sz:=Nat.mul_pos e3 e4;refine⟨_,?_,hv⟩;simp only [execOp,ho,e1];rw [Sem.run_bind,Lib.run_to_unsafe w ⟨b,0,none⟩ hS hT h1 (by omega) e2 hpos];rfl
theorem EJ (ho:o.op=.convert S T x) (hS:P.underlying S=some .unsafePointer) (hT:P.underlying T=some (.pointer t)) (hi:(P.info? t).map (·.size)=some (n+1)) (hx:aS E x=some (.ref id g 0 0)) (hH:H.get id=some ob) (hg:ob.g=g) (hne:ob.rows≠[]) (hty:ob.ty=t) (hsz:ob.sz=n+1):bS P N o E H (.ref id g 0 0) H :=.of_run fun a w I ι hr he=>by
  have hv:=aN he hx;obtain ⟨b,cap,e1,e2,e3,e4⟩:=JX hr hv hH hg hne;obtain ⟨j,h1,h2⟩:=yA hi;rw [e1] at hv;have hc:P.cellsOf t=n+1:=by simp [Program.cellsOf,h1,h2]
  refine⟨_,?_,hv⟩;simp only [execOp,ho,e1];rw [hty] at e2;rw [Sem.run_bind,Lib.run_from_unsafe w ⟨b,0,none⟩ hS hT h1 e2 (PN hc _ (by rw [hc,hsz,Nat.mul_div_cancel _ (by omega)];exact e3))];rfl
theorem MM {i k:Nat} (ho:o.op=.binOp .neq t x y t') (ht:P.underlying t=some (.pointer e)) (hi:(P.info? e).map (·.size)=some (n+1)) (hx:aS E x=some (.ref id g i k)) (hy:aS E y=some (.ref id g i k)) (hH:H.get id=some ob) (hg:ob.g=g):bS P N o E H (.pv (.bool false)) H :=.of_run fun a w I ι _ he=>⟨.bool false,by
  obtain ⟨b,cap,q1,e1⟩:=kY (aN he hx) hH hg;obtain ⟨b',cap',q2,e2⟩:=kY (aN he hy) hH hg;rw [q1] at q2;cases q2;obtain ⟨j,h1,h2⟩:=yA hi;simp only [execOp,ho,e1,e2,eqGuard_at_pointer,Sem.run_bind,Sem.run_pure,Result.andThen_ok,Lib.run_neq_ptr_same w _ ht h1],.pv (.bool _)⟩
theorem aBZ (v:AV):aFc P Extern.AbiNoEscape.same H [v] v:=by
 intro w I ι cs hl h;obtain ⟨l⟩:=cs
 match l,hl with
 | [u],_=>exact⟨u,rfl,h 0 u v rfl rfl⟩
theorem IK (ho:o.op=.call {callee:=.builtin .unsafeSliceData,args:=#[x],argTypes:=#[T]}) (hx:aS E x=some (.osl id g 0 n)) (hH:H.get id=some ob) (hg:ob.g=g) (hn:0 < n):bS P N o E H (.ref id g 0 0) H :=.of_run fun a w I ι hr he=>by
  have hv:=aN he hx;have hz:=mC hv hH hg;obtain ⟨hl,⟨b,cap,oo,e1,e2,e3⟩|⟨_,_,_,e4⟩⟩:=gJ hv hH hg
  ·obtain ⟨_,_,⟨b',cap',cs,f1,f2,f3,f4,f5,_⟩|⟨f1,_⟩⟩:=(hr.obj id ob hH).cells hz
   ·rw [e1] at f1;cases f1;obtain rfl:oo=0:=by rw [e3 (.inr rfl)];simp
    refine⟨.pointer (some ⟨b,0,none⟩),?_,.ref ob hH (Nat.le_of_eq hg.symm) rfl fun _=>⟨hz,b,cap,e1,by simp⟩⟩;have hc:cap≠0:=by omega
    simp [execOp,ho,resolve,invoke,builtin,e2,Lib.run_unsafeSliceData_row w _ _ _ _ _ hc]
   rw [e1] at f1;cases f1
  omega
theorem GH (ho:o.op=.call {callee:=.builtin .unsafeSliceData,args:=#[x],argTypes:=#[T]}) (hp:P.underlying o.type=some (.pointer e)) (hx:aS E x=some (.osl id g 0 0)) (hH:H.get id=some ob) (hg:ob.g=g):bS P N o E H (.pv (.sat aBE)) H:=by
 intro a w I ι _ _ hr he K Q hk;have hv:=aN he hx;have hz:=mC hv hH hg;have fin:∀ (c:Value) (w':World),(Builtin.unsafeSliceData_ #[T] o.type #[a.eval x]).run P w=.ok c w'→aBE c→Rel I ι H w'→Step I ι H w I ι H w'→o.wpW P a w K Q:=fun c w' hrun hc k1 k2=>by
  have hone:c.oneCell'=true:=by obtain ⟨p,rfl⟩:=hc;rfl
  unfold Oper.wpW;have:(execOp a.eval o).run P w=.ok (.value c) w':=by
   simp [execOp,ho,resolve,invoke,builtin,hrun]
  rw [this];exact hk c w' I ι _ H ⟨rfl,rfl⟩ (.pv (.sat hone hc)) k1 k2
 obtain ⟨hl,⟨b,cap,oo,e1,e2,e3⟩|⟨_,e2,_,e4⟩⟩:=gJ hv hH hg
 ·by_cases hc:cap=0
  ·obtain ⟨_,_,⟨b',cap',cs,f1,f2,f3,f4,f5,_⟩|⟨f1,_⟩⟩:=(hr.obj id ob hH).cells hz
   ·rw [e1] at f1;cases f1;obtain ⟨k1,k2⟩:=hr.push (.view ⟨b,oo,none⟩ e);refine fin (.pointer (some ⟨w.heap.size,0,none⟩)) _ ?_ ⟨_,rfl⟩ k1 k2;rw [e2,hc];exact Lib.run_unsafeSliceData_zero w #[T] o.type e hp ⟨b,oo,none⟩ 0 (ob.ty,cs.size) (by simp [World.shape?,f2])
   rw [e1] at f1;cases f1
  refine fin (.pointer (some ⟨b,oo,none⟩)) _ ?_ ⟨_,rfl⟩ hr (Step.refl _ _ _ _);rw [e2];exact Lib.run_unsafeSliceData_row w #[T] o.type ⟨b,oo,none⟩ 0 _ (by omega)
 refine fin (.pointer none) _ ?_ ⟨_,rfl⟩ hr (Step.refl _ _ _ _);rw [e2];exact Lib.run_unsafeSliceData_nil w #[T] o.type 0 0
theorem BB {T2:TypeId} (ho:o.op=.call {callee:=.builtin .unsafeString,args:=#[x,y],argTypes:=#[T,T2]}) (hx:aS E x=some (.pv (.sat aBE))) (hy:aS E y=some (.pv (.int .i64 0))):bS P N o E H (.pv (.str ⟨#[]⟩)) H :=.of_run fun a w I ι hr he=>by
  have h2:=(aN he hy).int_inv;have h1:=(aN he hx).sat_inv;obtain ⟨p,hp⟩:=h1;refine⟨_,?_,.pv (.str _)⟩;simp [execOp,ho,resolve,invoke,builtin,hp,h2,Lib.run_unsafeString_none w T T2 o.type p];rfl
theorem Rel.lost {I:Nat→Prop} {ι:eE} {w w':World} {b cap:Nat} (hr:Rel I ι H w) (hH:H.get id=some ob) (hz:0 < ob.sz) (hι:ι id=some (b,cap)) (hos:w'.os=w.os) (htape:w'.tape=w.tape) (hout:w'.output=w.output) (hsize:w'.heap.size=w.heap.size)
  (hw:∀ c,c≠b→w'.heap[c]?=w.heap[c]?):Rel I (vN ι id) ((id,S3 ob)::H) w'∧Step I ι H w I (vN ι id) ((id,S3 ob)::H) w':=by
 have hown:CP ι H b:=⟨id,ob,cap,hH,hι⟩;have hst:Step I ι H w I (vN ι id) ((id,S3 ob)::H) w':=by
  refine⟨hos,htape,hout,by omega,fun a _ hn=>?_,fun _ h=>h,fun _ h=>.inl h,fun c hc=>?_,fun c _ hn=>hw c (fun e=>hn (e▸hown)),fun j o hj=>?_⟩
  ·unfold World.frozen?;rw [hw a.block (fun e=>hn (by rw [e];exact hown))]
  ·obtain ⟨j,o,cp,hj,hi⟩:=hc;by_cases e:j=id
   ·rw [vN,aHq e] at hi;cases hi
   rw [vN,aHp e] at hi;rw [get_cons_other _ _ e] at hj;exact .inl ⟨j,o,cp,hj,hi⟩
  by_cases e:j=id
  ·subst e;rw [hH] at hj;cases hj;exact⟨S3 ob,get_cons_same _ _ _,Nat.le_succ _,fun h=>absurd h (by simp [S3])⟩
  exact⟨o,by rw [get_cons_other _ _ e];exact hj,aHx _,fun _=>⟨aHp e,rfl,fun _=>aHx _⟩⟩
 refine⟨⟨fun c hc=>by rw [hsize];exact hr.imm c hc,fun j o hj=>?_,fun j j' o o' c d d' hj hj' hi hi'=>?_,hst.glob hr⟩,hst⟩
 ·by_cases e:j=id
  ·subst e;rw [get_cons_same] at hj;cases hj;exact .inl ⟨hz,by simp [S3],.inr ⟨aHq rfl,rfl⟩⟩
  rw [get_cons_other _ _ e] at hj;exact(hr.obj j o hj).keep (aHp e) (fun c d e1 _=>⟨hw c (fun hc=>e (hr.inj j id o ob b d cap hj hH (by rw [← hc];exact e1) hι)),fun h=>h⟩) (fun r _ a _ v hv=>hv.mono hr hst)
 have n1:j≠id:=fun e=>by rw [vN,aHq e] at hi;cases hi
 have n2:j'≠id:=fun e=>by rw [vN,aHq e] at hi';cases hi'
 rw [vN,aHp n1] at hi;rw [vN,aHp n2] at hi';rw [get_cons_other _ _ n1] at hj;rw [get_cons_other _ _ n2] at hj';exact hr.inj j j' o o' c d d' hj hj' hi hi'
theorem C5 {T2:TypeId} {l:List UInt8} {s:ByteArray} (ho:o.op=.call {callee:=.builtin .unsafeString,args:=#[x,y],argTypes:=#[T,T2]}) (hT:P.underlying T=some (.pointer e)) (hi:(P.info? e).map (·.size)=some 1) (hx:aS E x=some (.ref id g 0 0)) (hy:aS E y=some (.pv (.int .i64 n)))
  (hH:H.get id=some ob) (hg:ob.g=g) (hsz:ob.sz=1) (hty:ob.ty=e) (hrows:ob.rows=bP l) (hl:l.length=n) (hn:0 < n) (hn2:n≤9223372036854775807) (hs:(⟨l.toArray⟩:ByteArray)=s):bS P N o E H (.pv (.str s)) ((id,S3 ob)::H):=by
 subst hs hl;intro a w I ι _ _ hr he K Q hk;have hv:=aN he hx;obtain ⟨b,cap,e1,e2⟩:=kY hv hH hg;have h2:=(aN he hy).int_inv;obtain ⟨j,h3,h4⟩:=yA hi;have hc:P.cellsOf e=1:=by simp [Program.cellsOf,h3,h4]
 have hlen:ob.rows.length=l.length:=by rw [hrows];simp [bP]
 obtain ⟨_,_,⟨b',cap',cs,f1,f2,f3,f4,f5,_,f6⟩|⟨f1,_⟩⟩:=(hr.obj id ob hH).cells (by omega)
 ·rw [e1] at f1;cases f1;rw [hsz,Nat.mul_one] at f4;have hcell:∀ j x,l[j]?=some x→w.cell? ((⟨b,0,none⟩:Addr).add j)=some (.int .u8 x.toNat):=fun j x hj=>by
   obtain ⟨v,q1,_,q3⟩:=f6 j [.pv (.int .u8 x.toNat)] (by rw [hrows,bP,aIL,hj];rfl) 0 _ rfl;rw [hsz,Nat.mul_one,Nat.add_zero,q3.int_inv] at q1;rw [Addr.add_lit,aIJ,cell_of_row w b _ cs ob.ty (0,0) f2];exact q1
  have hrun:=Lib.run_unsafeString_row (P:=P) w T T2 o.type e hT hc b cs.size (by rw [← hty];simp [World.shape?,f2]) l (fun h0=>by rw [h0] at hn;exact Nat.lt_irrefl _ hn) (by omega) hn2 hcell;have hw:∀ c,c≠b→(w.freeze ⟨b,0,none⟩ l.length).heap[c]?=w.heap[c]?:=fun c hcb=>by
   unfold World.freeze
   split
   ·rfl
   simp only [Array.getElem?_modify];rw [aHp (fun h=>hcb h.symm)]
  obtain ⟨k1,k2⟩:=hr.lost (w':=w.freeze ⟨b,0,none⟩ l.length) hH (by omega) e1 (by unfold World.freeze;split<;>rfl) (by unfold World.freeze;split<;>rfl) (by unfold World.freeze;split<;>rfl) (by unfold World.freeze;split<;>simp) hw;unfold Oper.wpW;have:(execOp a.eval o).run P w=.ok (.value (.string ⟨l.toArray⟩)) (w.freeze ⟨b,0,none⟩ l.length):=by
   rw [hsz] at e2;simp [execOp,ho,resolve,invoke,builtin,e2,h2,hrun]
  rw [this];exact hk _ _ I (vN ι id) _ _ ⟨rfl,rfl⟩ (.pv (.str _)) k1 k2
 rw [e1] at f1;cases f1
end
end
section
theorem xP {w:World} {I:Nat→Prop} {ι:eE} {H:aE} {v:Value} {id g off len c:Nat} {ob:Ob} (h:VRel w I ι H v (.osc id g off len c)) (hH:H.get id=some ob) (hg:ob.g=g) :
  0 < ob.sz∧len≤c∧((∃ b oo,ι id=some (b,off+c)∧v=.slice (some ⟨b,oo,none⟩) len c∧(0 < c∨off=0→oo=off*ob.sz))∨(ι id=none∧v=.slice none 0 0∧off=0∧len=0∧c=0)):=by
 cases h with
 | osc o' h1 h2 _ h3 =>
  rw [hH] at h1;cases h1;exact h3 hg
theorem MH {w:World} {I:Nat→Prop} {ι:eE} {H:aE} {v:Value} {id g off len:Nat} {ob:Ob} (hr:Rel I ι H w) (h:VRel w I ι H v (.osl id g off len)) (hH:H.get id=some ob) (hg:ob.g=g) :
  ∃ c,len≤c∧c≤maxLen∧VRel w I ι H v (.osc id g off len c):=by
 have hz:=mC h hH hg;obtain ⟨h1,⟨b,cap,oo,h2,h3,h4⟩|⟨h2,h3,h4,h5⟩⟩:=gJ h hH hg
 ·obtain ⟨_,_,⟨b',cap',cs,e1,e2,e3,e4,e5,e6,e7⟩|⟨e1,_⟩⟩:=(hr.obj id ob hH).cells hz
  ·rw [h2] at e1;cases e1;refine⟨cap - off,by omega,by omega,?_⟩;subst h3;refine .osc ob hH (by omega) rfl fun _=>⟨hz,by omega,.inl ⟨b,oo,?_,rfl,fun hh=>h4 (by omega)⟩⟩;rw [h2];congr 2;omega
  rw [h2] at e1;cases e1
 subst h3 h4 h5;exact⟨0,aHx _,aII _,.osc ob hH (by omega) rfl fun _=>⟨hz,aHx _,.inr ⟨h2,rfl,rfl,rfl,rfl⟩⟩⟩
theorem aDT {w:World} {I:Nat→Prop} {ι:eE} {H:aE} {v:Value} {id g off len c:Nat} {ob:Ob} (h:VRel w I ι H v (.osc id g off len c)) (hH:H.get id=some ob) (hg:ob.g=g) (hl:off+len≤ob.rows.length) :
  VRel w I ι H v (.osl id g off len):=by
 obtain ⟨hz,h1,⟨b,oo,h2,h3,h4⟩|⟨h2,h3,h4,h5,h6⟩⟩:=xP h hH hg
 ·subst h3;refine .osl ob hH (by omega) rfl fun _=>⟨hz,hl,.inl ⟨b,off+c,oo,h2,?_,fun hh=>h4 (by omega)⟩⟩;congr 1;omega
 subst h3 h4 h5;exact .osl ob hH (by omega) rfl fun _=>⟨hz,hl,.inr ⟨h2,rfl,rfl,rfl⟩⟩
section
variable {P:Program} {G0:aE} {N:Nat} {Q:Exit→bZ→aE→Prop} {E:bZ} {H:aE} {code:Code}
theorem YS {t id g off n c:Nat} {ob:Ob} (hx:E.get t=some (.osc id g off n c)) (hH:H.get id=some ob) (hg:ob.g=g) (hl:off+n≤ob.rows.length) (h:iF P G0 N code Q ((t,.osl id g off n)::E) H):iF P G0 N code Q E H:=by
 intro G hG a w hs;obtain ⟨I,ι,hr,hst,he⟩:=hs.rel;obtain ⟨v,hv,hvr⟩:=he t _ hx;refine h G hG a w ⟨hs.defers,hs.size,I,ι,hr,hst,fun u x hu=>?_⟩;by_cases e:t=u
 ·subst e;rw [bZ.get_cons_same] at hu;cases hu;exact⟨v,hv,aDT hvr hH hg hl⟩
 rw [bZ.get_cons_other _ _ e] at hu;exact he u x hu
end
section
variable {P:Program} {N:Nat} {o:Oper} {E:bZ} {H:aE} {T:TypeId} {x y:Operand}
def ZC (w:World) (I:Nat→Prop) (ι:eE) (H:aE) (sz:Nat) (v:Value) (len:Nat) (rows:List (List AV)):Prop :=(∃ a c news,v=.slice (some a) len c∧rows.length≤len∧news.length=rows.length*sz∧(∀ j u,news[j]?=some u→w.cell? (a.add j)=some u)∧(∀ u∈news,u.oneCell'=true)∧pQ w I ι H sz news rows) ∨
 (v=.slice none 0 0∧len=0∧rows=[])
theorem pQ.take {w:World} {I:Nat→Prop} {ι:eE} {H:aE} {sz:Nat} {l:List Value} {rows:List (List AV)} (h:pQ w I ι H sz l rows) (hl:∀ r∈rows,r.length=sz) (k:Nat):pQ w I ι H sz (l.take (k*sz)) (rows.take k):=by
 intro i r hi j a hj;rw [List.getElem?_take] at hi
 split at hi
 ·obtain ⟨u,q1,q2,q3⟩:=h i r hi j a hj;have hjs:j < sz:=by rw [← hl r (aIB hi)];exact(aHv.1 hj).1
  refine⟨u,?_,q2,q3⟩;rw [List.getElem?_take,aHq]
  ·exact q1
  have:(i+1)*sz≤k*sz:=Nat.mul_le_mul_right _ (by omega);rw [Nat.add_mul] at this;omega
 cases hi
theorem pQ.drop {w:World} {I:Nat→Prop} {ι:eE} {H:aE} {sz:Nat} {l:List Value} {rows:List (List AV)} (h:pQ w I ι H sz l rows) (k:Nat):pQ w I ι H sz (l.drop (k*sz)) (rows.drop k):=by intro i r hi j a hj;rw [List.getElem?_drop] at hi;obtain ⟨u,q1,q2,q3⟩:=h _ r hi j a hj;refine⟨u,?_,q2,q3⟩;rw [List.getElem?_drop];rw [Nat.add_mul] at q1;rw [← Nat.add_assoc];exact q1
theorem Src.first {w:World} {I:Nat→Prop} {ι:eE} {H:aE} {sz:Nat} {v:Value} {rows:List (List AV)} (h:Src w I ι H sz v rows) (hl:∀ r∈rows,r.length=sz) (k:Nat) (hk:k≤rows.length):ZC w I ι H sz v rows.length (rows.take k):=by
 rcases h with⟨a,c,news,s1,s2,s3,s4,s5⟩|⟨s1,s2⟩
 ·refine .inl ⟨a,c,news.take (k*sz),s1,by rw [aIF];omega,?_,?_,fun u hu=>s4 u (List.mem_of_mem_take hu),s5.take hl k⟩
  ·have:k*sz≤rows.length*sz:=Nat.mul_le_mul_right _ hk;rw [aIF,aIF,s2,Nat.min_eq_left hk,Nat.min_eq_left this]
  intro j u hj;rw [List.getElem?_take] at hj
  split at hj
  ·exact s3 j u hj
  cases hj
 subst s2;exact .inr ⟨s1,rfl,by simp⟩
theorem WE {w:World} {I:Nat→Prop} {ι:eE} {H:aE} {sz:Nat} {v:Value} {ps:List (List PV)} (h:VRel w I ι H v (.pv (.sl ps))) (hsz:0 < sz) (hl:∀ r∈ps,r.length=sz) (k:Nat) (hk:k≤ps.length):ZC w I ι H sz v ps.length ((ps.take k).map (·.map .pv)):=by
 have:=(OO h hsz hl).first (fun r hr=>by
  obtain ⟨q,hq,rfl⟩:=List.mem_map.1 hr;rw [aHr];exact hl q hq) k (by rw [aHr];exact hk)
 rwa [aHr,← List.map_take] at this
theorem Z8 {w:World} {I:Nat→Prop} {ι:eE} {H:aE} {sz id g off len c:Nat} {ob:Ob} {v:Value} (hr:Rel I ι H w) (h:VRel w I ι H v (.osc id g off len c)) (hH:H.get id=some ob) (hg:ob.g=g) (hsz:ob.sz=sz) (k:Nat) (hk:k≤len) (hk2:off+k≤ob.rows.length) :
  ZC w I ι H sz v len ((ob.rows.drop off).take k):=by
 obtain ⟨hz,h1,⟨b,oo,h2,h3,h4⟩|⟨h2,h3,h4,h5,h6⟩⟩:=xP h hH hg
 ·have hv:VRel w I ι H (.slice (some ⟨b,oo,none⟩) k c) (.osl id g off k) :=
   .osl ob hH (by omega) rfl fun _=>⟨hz,hk2,.inl ⟨b,off+c,oo,h2,by congr 1;omega,fun hh=>h4 (by omega)⟩⟩
  have hlen:((ob.rows.drop off).take k).length=k:=by rw [aIF,aIG];omega
  rcases T8 hr hv hH hg hsz with⟨a,c',news,s1,s2,s3,s4,s5⟩|⟨s1,s2⟩
  ·injection s1 with q1 q2 q3;injection q1 with q1;subst q1;exact .inl ⟨_,c,news,h3,by omega,s2,s3,s4,s5⟩
  cases s1
 subst h4 h5;have:k=0:=by omega
 subst this;exact .inr ⟨h3,rfl,by simp⟩
theorem Z7 {w:World} {I:Nat→Prop} {ι:eE} {H:aE} {sz id g off len:Nat} {ob:Ob} {v:Value} (hr:Rel I ι H w) (h:VRel w I ι H v (.osl id g off len)) (hH:H.get id=some ob) (hg:ob.g=g) (hsz:ob.sz=sz) (k:Nat) (hk:k≤len) :
  ZC w I ι H sz v len ((ob.rows.drop off).take k):=by
 obtain ⟨c,h1,h2,h3⟩:=MH hr h hH hg;have:=(gJ h hH hg).1;exact Z8 hr h3 hH hg hsz k hk (by omega)
theorem Rel.write {I:Nat→Prop} {ι:eE} {H H':aE} {w:World} {id b cap off g2:Nat} {ob:Ob} {cs:Array Value} {news:List Value} {rows2:List (List AV)} (hr:Rel I ι H w) (hH:H.get id=some ob) (hι:ι id=some (b,cap)) (hb:w.heap[b]?=some (.cells cs ob.ty (0,0)))
  (hn:news.length=rows2.length*ob.sz) (hl:pQ w I ι H ob.sz news rows2) (hl2:∀ r∈rows2,r.length=ob.sz) (ho:off≤ob.rows.length) (hc:off+rows2.length≤cap) (hg2:ob.g≤g2)
  (h1:H'.get id=some ⟨g2,ob.sz,ob.ty,ob.rows.take off++(rows2++ob.rows.drop (off+rows2.length))⟩) (h2:∀ j,j≠id→H'.get j=H.get j) :
  Rel I ι H' (w.setRow b (cs.toList.take (off*ob.sz)++news++cs.toList.drop (off*ob.sz+news.length)).toArray)∧Step I ι H w I ι H' (w.setRow b (cs.toList.take (off*ob.sz)++news++cs.toList.drop (off*ob.sz+news.length)).toArray):=by
 obtain ⟨p1,p2,⟨b',cap',cs',e1,e2,e3,e4,e5,e5',e6⟩|⟨e1,_⟩⟩:=(hr.obj id ob hH).cells ((hr.obj id ob hH).pos hι hb)
 ·rw [hι] at e1;cases e1;rw [hb] at e2;cases e2;have hall:pQ w I ι H ob.sz cs.toList ob.rows:=fun i r hi k a hk=>by
   obtain ⟨v,q1,q2,q3⟩:=e6 i r hi k a hk;exact⟨v,by simpa using q1,q2,q3⟩
  have hoc:off≤cap:=by omega
  have hlt:(cs.toList.take (off*ob.sz)).length=(ob.rows.take off).length*ob.sz:=by
   have:off*ob.sz≤cap*ob.sz:=Nat.mul_le_mul_right _ hoc;rw [aIF,aIF,Array.length_toList,e4,Nat.min_eq_left this,Nat.min_eq_left ho]
  have hnl:off*ob.sz+news.length=(off+rows2.length)*ob.sz:=by rw [hn,Nat.add_mul]
  have htail:pQ w I ι H ob.sz (news++(cs.toList.drop (off*ob.sz+news.length)++[])) (rows2++ob.rows.drop (off+rows2.length)):=by
   refine pQ.app hl hn ?_;rw [hnl];exact hall.drop _
  rw [List.append_nil] at htail;have hfin:=pQ.app (l3:=[]) (hall.take p2 off) hlt htail;rw [List.append_nil] at hfin;have hsize:(cs.toList.take (off*ob.sz)++news++cs.toList.drop (off*ob.sz+news.length)).toArray.size=cap*ob.sz:=by
   have:(off+rows2.length)*ob.sz≤cap*ob.sz:=Nat.mul_le_mul_right _ hc;simp only [List.size_toArray,aHs,aIF,aIG,Array.length_toList,e4];omega
  refine Rel.update (ob':=⟨g2,ob.sz,ob.ty,ob.rows.take off++(rows2++ob.rows.drop (off+rows2.length))⟩) hr hH hι hb hg2 rfl rfl (fun _=>?_) hsize ?_ (fun r hr'=>?_) (fun i r hi k a hk=>?_) h1 h2
  ·simp only [aHs,aIF,aIG];omega
  ·simp only [aHs,aIF,aIG];omega
  ·rcases List.mem_append.1 hr' with h|h
   ·exact p2 r (List.mem_of_mem_take h)
   rcases List.mem_append.1 h with h|h
   ·exact hl2 r h
   exact p2 r (List.mem_of_mem_drop h)
  obtain ⟨u,q1,q2,q3⟩:=hfin i r hi k a hk;refine⟨u,?_,q2,q3⟩;rw [List.getElem?_toArray,List.append_assoc];exact q1
 rw [hι] at e1;cases e1
theorem JF {off n:Nat} {rows:List (List AV)} (h:n=0):rows.take off++([]++rows.drop (off+n))=rows:=by subst h;simp
theorem aAg {D S e:TypeId} {id g off len len2 n sz:Nat} {ob:Ob} {rows2:List (List AV)} {H2:aE} (ho:o.op=.call {callee:=.builtin .copy,args:=#[x,y],argTypes:=#[D,S]}) (hS:fP P D e sz)
  (hd:∀ (a:Act) (w:World) (I:Nat→Prop) (ι:eE),Rel I ι H w→jE w I ι H E a→∃ c,VRel w I ι H (a.eval x) (.osc id g off len c)) (hH:H.get id=some ob) (hg:ob.g=g) (hsz:ob.sz=sz) (hoff:off≤ob.rows.length)
  (hsrc:∀ (a:Act) (w:World) (I:Nat→Prop) (ι:eE),Rel I ι H w→jE w I ι H E a→ZC w I ι H sz (a.eval y) len2 rows2) (hrl2:∀ r∈rows2,r.length=sz) (hn:rows2.length=n) (hmin:min len2 len=n)
  (hH2:∀ j,H2.get j=(H.set id ⟨g,sz,ob.ty,ob.rows.take off++(rows2++ob.rows.drop (off+n))⟩).get j):bS P N o E H (.pv (.int .i64 n)) H2:=by
 intro a w I ι _ _ hr he K Q hk;obtain ⟨c,hv⟩:=hd a w I ι hr he;obtain ⟨hz,h1,hcase⟩:=xP hv hH hg;have hmin':Nat.min len2 len=n:=hmin;have hs:=hS.2.1;have hD:=hS.1;subst hg hsz;have hpure:n=0→(∀ j,H2.get j=H.get j):=fun h0 j=>by
  rw [hH2 j];have hr0:rows2=[]:=List.eq_nil_of_length_eq_zero (by omega);subst hr0;rw [JF h0];by_cases e:j=id
  ·subst e;rw [aE.get_set_same,hH]
  exact aE.get_set_other _ _ e
 have hfirst:∀ news:List Value,∀ ad c',a.eval y=.slice (some ad) len2 c'→news.length=n*ob.sz→(∀ j u,news[j]?=some u→w.cell? (ad.add j)=some u)→(Builtin.firstCells ob.sz n (a.eval y)).run P w=.ok news.toArray w:=fun news ad c' e1 e2 e3=>by
  rw [e1];exact run_firstCells_some (P:=P) w ob.sz n ad len2 c' news e2 e3
 rcases hcase with⟨b,oo,c1,c2,c3⟩|⟨c1,c2,c3,c4,c5⟩
 ·by_cases hn0:n=0
  ·obtain ⟨k2,k3⟩:=hr.congr (hpure hn0);have hrun:(execOp a.eval o).run P w=.ok (.value (.int .i64 ((0:Nat):Int))) w:=by
    unfold execOp;have hfc:(Builtin.firstCells ob.sz n (a.eval y)).run P w=.ok #[] w:=by
     rcases hsrc a w I ι hr he with⟨ad,c',news,s1,s2,s3,s4,s5,s6⟩|⟨s1,s2,s3⟩
     ·have:=hfirst news ad c' s1 (by rw [s3,hn]) s4;have hnn:news=[]:=List.eq_nil_of_length_eq_zero (by rw [s3,hn,hn0];simp);rw [this,hnn]
     rw [s1];exact run_firstCells_none (P:=P) (w:=w) ob.sz n 0 0
    have hlen:(Builtin.lenOf (a.eval y)).run P w=.ok len2 w:=by
     rcases hsrc a w I ι hr he with⟨ad,c',news,s1,s2,s3,s4,s5,s6⟩|⟨s1,s2,s3⟩
     ·rw [s1];rfl
     rw [s1,s2];rfl
    simp only [ho,resolve,invoke,builtin,Sem.run_bind,Sem.run_pure,Result.andThen_ok,List.map_toArray,List.map_cons,List.map_nil,c2,Builtin.copy_,run_underlying hD,hs];simp only [List.getElem?_toArray,List.getElem?_cons_zero,List.getElem?_cons_succ,run_underlying hD,Sem.run_bind,Sem.run_pure,Result.andThen_ok,hs,hlen,hmin',hfc];simp [storeCells,goInt,hn0]
   unfold Oper.wpW;rw [hrun];subst hn0;exact hk _ _ I ι _ _ ⟨rfl,rfl⟩ (.pv (.int _ _)) k2 k3
  obtain ⟨p1,p2,⟨b',cap',cs,e1,e2,e3,e4,e5,e5',e6⟩|⟨e1,_⟩⟩:=(hr.obj id ob hH).cells hz
  ·rw [c1] at e1;cases e1;have hoo:=c3 (by omega);subst hoo;rcases hsrc a w I ι hr he with⟨ad,c',news,s1,s2,s3,s4,s5,s6⟩|⟨s1,s2,s3⟩
   ·have hnl:news.length=n*ob.sz:=by rw [s3,hn]
    have hfc:=hfirst news ad c' s1 hnl s4;have hfit:off*ob.sz+0+news.length≤cs.size:=by
     rw [e4,hnl,Nat.add_zero,← Nat.add_mul];exact Nat.mul_le_mul_right _ (by omega)
    have hst:=run_storeCells_at P b (off*ob.sz) ob.ty news 0 cs w e2 hfit s5;simp only [Nat.add_zero] at hst;obtain ⟨k2,k3⟩:=Rel.write (H':=H2) (off:=off) (g2:=ob.g) hr hH c1 e2 s3 s6 hrl2 hoff (by omega) (aHx _) (by rw [hH2,aE.get_set_same,hn]) (fun j hj=>by rw [hH2,aE.get_set_other _ _ hj]);unfold Oper.wpW execOp;simp only [ho,resolve,invoke,builtin,Sem.run_bind,Sem.run_pure,Result.andThen_ok,List.map_toArray,List.map_cons,List.map_nil,c2,Builtin.copy_,run_underlying hD,hs];have hlen:(Builtin.lenOf (a.eval y)).run P w=.ok len2 w:=by rw [s1];rfl
    simp only [List.getElem?_toArray,List.getElem?_cons_zero,List.getElem?_cons_succ,run_underlying hD,Sem.run_bind,Sem.run_pure,Result.andThen_ok,hs,hlen,hmin',hfc,hst];exact hk _ _ I ι _ _ ⟨rfl,rfl⟩ (.pv (.int _ _)) k2 k3
   omega
  rw [c1] at e1;cases e1
 have hn0:n=0:=by omega
 obtain ⟨k2,k3⟩:=hr.congr (hpure hn0);have hrun:(execOp a.eval o).run P w=.ok (.value (.int .i64 ((0:Nat):Int))) w:=by
  unfold execOp;have hfc:(Builtin.firstCells ob.sz n (a.eval y)).run P w=.ok #[] w:=by
   rcases hsrc a w I ι hr he with⟨ad,c',news,s1,s2,s3,s4,s5,s6⟩|⟨s1,s2,s3⟩
   ·have:=hfirst news ad c' s1 (by rw [s3,hn]) s4;have hnn:news=[]:=List.eq_nil_of_length_eq_zero (by rw [s3,hn,hn0];simp);rw [this,hnn]
   rw [s1];exact run_firstCells_none (P:=P) (w:=w) ob.sz n 0 0
  have hlen:(Builtin.lenOf (a.eval y)).run P w=.ok len2 w:=by
   rcases hsrc a w I ι hr he with⟨ad,c',news,s1,s2,s3,s4,s5,s6⟩|⟨s1,s2,s3⟩
   ·rw [s1];rfl
   rw [s1,s2];rfl
  rw [c4] at hmin';simp only [ho,resolve,invoke,builtin,Sem.run_bind,Sem.run_pure,Result.andThen_ok,List.map_toArray,List.map_cons,List.map_nil,c2,Builtin.copy_,run_underlying hD,hs];simp only [List.getElem?_toArray,List.getElem?_cons_zero,List.getElem?_cons_succ,run_underlying hD,Sem.run_bind,Sem.run_pure,Result.andThen_ok,hs,hlen,hmin',hfc];simp [storeCells,goInt,hn0]
 unfold Oper.wpW;rw [hrun];subst hn0;exact hk _ _ I ι _ _ ⟨rfl,rfl⟩ (.pv (.int _ _)) k2 k3
end
end
section
section
variable {P:Program} {N:Nat} {o:Oper} {E:bZ} {H:aE} {T:TypeId} {x y:Operand}
theorem XJ {e:TypeId} {id g off len c sz:Nat} {ob:Ob} {row:List AV} {rows':List (List AV)} (ho:o.op=.call {callee:=.builtin .clear,args:=#[x],argTypes:=#[T]}) (hS:fP P T e sz) (hZ:jU P e row) (hrow:row.length=sz)
  (hx:aS E x=some (.osc id g off len c)) (hH:H.get id=some ob) (hg:ob.g=g) (hosz:ob.sz=sz) (hoff:off≤ob.rows.length) (hrows:ob.rows.take off++(List.replicate len row++ob.rows.drop (off+len))=rows') :
  bS P N o E H .any ((id,⟨g,sz,ob.ty,rows'⟩)::H):=by
 intro a w I ι _ _ hr he K Q hkk;obtain ⟨z,zv,z1,z2,z3⟩:=hZ;subst hg hosz hrows;have hv:=aN he hx;obtain ⟨hzp,h1,hcase⟩:=xP hv hH rfl;have hT:=hS.1;have hcr:=vT.of_cells (ZV.rel (w:=w) (I:=I) (ι:=ι) (H:=H) z2) z3;have hzs:z.cells.size=ob.sz:=by rw [← hrow];exact hcr.1
 have hnone:len=0→(execOp a.eval o).run P w=.ok (.value (.tuple #[])) w→o.wpW P a w K Q:=by
  intro h0 hrun;obtain ⟨k2,k3⟩:=hr.congr (H':=(id,⟨ob.g,ob.sz,ob.ty,ob.rows.take off++(List.replicate len row++ob.rows.drop (off+len))⟩)::H) (fun j=>by
   subst h0;rw [List.replicate_zero,JF rfl];by_cases e:j=id
   ·subst e;rw [get_cons_same,hH]
   exact get_cons_other _ _ e)
  unfold Oper.wpW;rw [hrun];exact hkk _ _ I ι _ _ ⟨rfl,rfl⟩ (.any _) k2 k3
 rcases hcase with⟨b,oo,c1,c2,c3⟩|⟨c1,c2,c3,c4,c5⟩
 ·by_cases h0:len=0
  ·refine hnone h0 ?_;unfold execOp;simp only [ho,resolve,invoke,builtin,Sem.run_bind,Sem.run_pure,Result.andThen_ok,List.map_toArray,List.map_cons,List.map_nil,c2,h0,Builtin.clear_];simp [run_underlying hT]
  obtain ⟨p1,p2,⟨b',cap',cs,e1,e2,e3,e4,e5,e5',e6⟩|⟨e1,_⟩⟩:=(hr.obj id ob hH).cells hzp
  ·rw [c1] at e1;cases e1;have hoo:=c3 (by omega);subst hoo;have hzl:(Builtin.zeroCells z.cells len).toList.length=(List.replicate len row).length*ob.sz:=by
    rw [Array.length_toList,size_zeroCells,hzs,List.length_replicate]
   have hget:∀ j,j < len*ob.sz→∃ hk:j % ob.sz < z.cells.size,(Builtin.zeroCells z.cells len).toList[j]?=some (z.cells[j % ob.sz]):=by
    intro j hj;have hk:j % ob.sz < z.cells.size:=by rw [hzs];exact Nat.mod_lt _ hzp
    refine⟨hk,?_⟩;rw [Array.getElem?_toList];simp only [Builtin.zeroCells,Array.getElem?_map];rw [Array.getElem?_range,hzs,aHq hj];simp only [Option.map_some];rw [getElem!_pos z.cells (j % ob.sz) hk]
   have hone:∀ u∈(Builtin.zeroCells z.cells len).toList,u.oneCell'=true:=by
    intro u hu;obtain ⟨j,hj⟩:=aIM.1 hu;have hjl:j < len*ob.sz:=by
     have:=(aHv.1 hj).1;rw [hzl,List.length_replicate] at this;exact this
    obtain ⟨hk,e⟩:=hget j hjl;rw [e] at hj;cases hj;have hkr:j % ob.sz < row.length:=by rw [hrow];exact Nat.mod_lt _ hzp
    obtain ⟨u,q1,q2,_⟩:=hcr.2 _ _ (aHw hkr);rw [Array.getElem?_eq_getElem hk] at q1;cases q1;exact q2
   have hlr:pQ w I ι H ob.sz (Builtin.zeroCells z.cells len).toList (List.replicate len row):=by
    intro i r hi k av hk;rw [List.getElem?_replicate] at hi
    split at hi
    ·cases hi;rename_i hlt;have hks:k < ob.sz:=by rw [← hrow];exact(aHv.1 hk).1
     have hfit:i*ob.sz+k < len*ob.sz:=by
      have:(i+1)*ob.sz≤len*ob.sz:=Nat.mul_le_mul_right _ hlt;rw [Nat.add_mul] at this;omega
     obtain ⟨hk2,e⟩:=hget _ hfit;obtain ⟨u,q1,q2,q3⟩:=hcr.2 k av hk;refine⟨u,?_,q2,q3⟩;rw [e];rw [Array.getElem?_eq_getElem (by rw [hzs];exact hks)] at q1;cases q1;congr 2;exact BP hks
    cases hi
   have hfit:off*ob.sz+0+(Builtin.zeroCells z.cells len).toList.length≤cs.size:=by
    rw [e4,hzl,List.length_replicate,Nat.add_zero,← Nat.add_mul];exact Nat.mul_le_mul_right _ (by omega)
   have hst:=run_storeCells_at P b (off*ob.sz) ob.ty (Builtin.zeroCells z.cells len).toList 0 cs w e2 hfit hone;simp only [Nat.add_zero] at hst;obtain ⟨k2,k3⟩:=Rel.write (H':=(id,⟨ob.g,ob.sz,ob.ty,ob.rows.take off++(List.replicate len row++ob.rows.drop (off+len))⟩)::H) (off:=off) (g2:=ob.g) hr hH c1 e2 hzl hlr (fun r hr'=>by rw [(List.mem_replicate.1 hr').2];exact hrow) hoff (by rw [List.length_replicate];omega) (aHx _) (by rw [get_cons_same,List.length_replicate]) (fun j hj=>get_cons_other _ _ hj);unfold Oper.wpW execOp;simp only [ho,resolve,invoke,builtin,Sem.run_bind,Sem.run_pure,Result.andThen_ok,List.map_toArray,List.map_cons,List.map_nil,c2,Builtin.clear_];obtain ⟨n',hn'⟩:∃ n',len=n'+1:=⟨len - 1,by omega⟩;subst hn';simp only [List.getElem?_toArray,List.getElem?_cons_zero,run_underlying hT,Sem.run_bind,Sem.run_pure,Result.andThen_ok,z1,hst];exact hkk _ _ I ι _ _ ⟨rfl,rfl⟩ (.any _) k2 k3
  rw [c1] at e1;cases e1
 refine hnone c4 ?_;unfold execOp;simp only [ho,resolve,invoke,builtin,Sem.run_bind,Sem.run_pure,Result.andThen_ok,List.map_toArray,List.map_cons,List.map_nil,c2,Builtin.clear_];simp [run_underlying hT]
end
end
section
section
variable {P:Program} {N:Nat} {o:Oper} {E:bZ} {H:aE} {T t t':TypeId} {x y:Operand}
theorem RV {e:TypeId} (w:World) (h:P.underlying t=some (.slice e)) (a:Option Addr) (n c n' c':Nat):(binOp .eql t (.slice a n c) (.slice none n' c')).run P w=.ok (.bool a.isNone) w:=by simp only [binOp];cases a<;>simp [Op.equal,Op.maxDepth,Lib.run_equalIn_slice_nil w 9999 t e _ n c n' c' h]
theorem SG {e:TypeId} {rows:List (List PV)} (ho:o.op=.binOp .eql t x (.const (.slice none 0 0)) t') (ht:P.underlying t=some (.slice e)) (hx:aS E x=some (.pv (.sl rows))):TU P N o E H (fun r H'=>H'=H∧∃ b,r=.pv (.bool b)∧(b=true→rows=[])):=by
 intro a w I ι _ _ hr he K Q hk;have hv:=(aN he hx).pv_inv;have e2:a.eval (.const (.slice none 0 0))=.slice none 0 0:=rfl;obtain ⟨b,n,c,e1,h1⟩:∃ (b:Option Addr) (n c:Nat),a.eval x=.slice b n c∧(b.isNone=true→rows=[]):=by
  generalize a.eval x=v at hv;cases hv with
  | nilsl=>exact⟨none,0,0,rfl,fun _=>rfl⟩
  | empsl a=>exact⟨some a,0,0,rfl,fun h=>by cases h⟩
  | sl b off cap sz _ cs h1 h2 h3 h4 h5 h6=>exact⟨_,_,cap,rfl,fun h=>by cases h⟩
 unfold Oper.wpW;have hrun:(execOp a.eval o).run P w=.ok (.value (.bool b.isNone)) w:=by
  simp only [execOp,ho,e1,e2,eqGuard_at_slice,Sem.run_bind,Sem.run_pure,Result.andThen_ok,RV _ ht]
 rw [hrun];exact hk _ _ I ι _ _ ⟨rfl,_,rfl,h1⟩ (.pv (.bool _)) hr (Step.refl _ _ _ _)
def aCT (E:bZ) (H:aE) (sz:Nat) (y:Operand) (len:Nat) (rows:List (List AV)):Prop :=∀ (a:Act) (w:World) (I:Nat→Prop) (ι:eE),Rel I ι H w→jE w I ι H E a→ZC w I ι H sz (a.eval y) len rows
def aE9 (E:bZ) (H:aE) (x:Operand) (id g off len:Nat):Prop :=∀ (a:Act) (w:World) (I:Nat→Prop) (ι:eE),Rel I ι H w→jE w I ι H E a→∃ c,VRel w I ι H (a.eval x) (.osc id g off len c)
theorem RL {sz id g off len k:Nat} {ob:Ob} {rows:List (List AV)} (hy:aS E y=some (.osl id g off len)) (hH:H.get id=some ob) (hg:ob.g=g) (hsz:ob.sz=sz) (hk:k≤len) (hr:(ob.rows.drop off).take k=rows):aCT E H sz y len rows:=by subst hr;exact fun a w I ι hr he=>Z7 hr (aN he hy) hH hg hsz k hk
theorem WD {sz len k:Nat} {ps:List (List PV)} {rows:List (List AV)} (hy:aS E y=some (.pv (.sl ps))) (hsz:0 < sz) (hl:∀ r∈ps,r.length=sz) (hlen:ps.length=len) (hk:k≤len) (hr:(ps.take k).map (·.map .pv)=rows):aCT E H sz y len rows:=by subst hr hlen;exact fun a w I ι hr he=>WE (aN he hy) hsz hl k hk
theorem HE {id g off len:Nat} {ob:Ob} (hx:aS E x=some (.osl id g off len)) (hH:H.get id=some ob) (hg:ob.g=g):aE9 E H x id g off len:=fun a w I ι hr he =>
 let ⟨c,_,_,h⟩:=MH hr (aN he hx) hH hg
 ⟨c,h⟩
theorem ZO {D S e:TypeId} {id g off len len2 n sz:Nat} {ob:Ob} {rows2 rows':List (List AV)} (ho:o.op=.call {callee:=.builtin .copy,args:=#[x,y],argTypes:=#[D,S]}) (hS:fP P D e sz)
  (hd:aE9 E H x id g off len) (hH:H.get id=some ob) (hg:ob.g=g) (hsz:ob.sz=sz) (hoff:off≤ob.rows.length)
  (hsrc:aCT E H sz y len2 rows2) (hrl2:∀ r∈rows2,r.length=sz) (hn:rows2.length=n) (hmin:min len2 len=n)
  (hrows:ob.rows.take off++(rows2++ob.rows.drop (off+n))=rows'):bS P N o E H (.pv (.int .i64 n)) ((id,⟨g,sz,ob.ty,rows'⟩)::H):=by
 subst hrows;exact aAg ho hS hd hH hg hsz hoff hsrc hrl2 hn hmin (fun j=>nE _ _ _ j)
end
def P4 (ob:Ob) (k:Nat):Ob:=⟨k,ob.sz,ob.ty,[]⟩
theorem Step.deadK {w:World} {I:Nat→Prop} {ι:eE} {H:aE} {id k:Nat} {ob:Ob} (hH:H.get id=some ob) (hk:ob.g < k):Step I ι H w (nP I ι id) (vN ι id) ((id,P4 ob k)::H) w where
 os:=rfl
 tape:=rfl
 output:=rfl
 size:=aHx _
 froz:=fun _ _ _=>rfl
 imm:=fun _ h=>.inl h
 immNew:=fun b hb=>by
  rcases hb with hb|⟨cap,hb⟩
  ·exact .inl hb
  exact .inr (.inl ⟨id,ob,cap,hH,hb⟩)
 own:=fun b hb=>by
  obtain ⟨j,o,cap,hj,hi⟩:=hb;by_cases e:j=id
  ·rw [vN,aHq e] at hi;cases hi
  rw [vN,aHp e] at hi;rw [get_cons_other _ _ e] at hj;exact .inl ⟨j,o,cap,hj,hi⟩
 keep:=fun _ _ _=>rfl
 objs:=fun j o hj=>by
  by_cases e:j=id
  ·subst e;rw [hH] at hj;cases hj;exact⟨P4 ob k,get_cons_same _ _ _,Nat.le_of_lt hk,fun h=>absurd h (by simp only [P4];omega)⟩
  exact⟨o,by rw [get_cons_other _ _ e];exact hj,aHx _,fun _=>⟨aHp e,rfl,fun _=>aHx _⟩⟩
theorem Rel.deadK {w:World} {I:Nat→Prop} {ι:eE} {H:aE} {id k:Nat} {ob:Ob} (hr:Rel I ι H w) (hH:H.get id=some ob) (hk:ob.g < k) (hsz:0 < ob.sz):Rel (nP I ι id) (vN ι id) ((id,P4 ob k)::H) w:=by
 have hst:=Step.deadK (w:=w) (I:=I) (ι:=ι) hH hk;refine⟨fun b hb=>?_,fun j o hj=>?_,fun j j' o o' b c c' hj hj' hi hi'=>?_,hr.glob.mono (fun _ _=>rfl) (fun _ h=>.inl h)⟩
 ·rcases hb with hb|⟨cap,hb⟩
  ·exact hr.imm b hb
  exact hr.lt ⟨id,ob,cap,hH,hb⟩
 ·by_cases e:j=id
  ·subst e;rw [get_cons_same] at hj;cases hj;exact .inl ⟨hsz,by simp [P4],.inr ⟨aHq rfl,rfl⟩⟩
  rw [get_cons_other _ _ e] at hj;refine(hr.obj j o hj).keep (aHp e) (fun b cap e1 _=>⟨rfl,fun h=>?_⟩) (fun r _ a _ v hv=>hv.mono hr hst);rintro(hb|⟨cap',hb⟩)
  ·exact h hb
  exact e (hr.inj j id o ob b cap cap' hj hH e1 hb)
 have n1:j≠id:=fun e=>by rw [vN,aHq e] at hi;cases hi
 have n2:j'≠id:=fun e=>by rw [vN,aHq e] at hi';cases hi'
 rw [vN,aHp n1] at hi;rw [vN,aHp n2] at hi';rw [get_cons_other _ _ n1] at hj;rw [get_cons_other _ _ n2] at hj';exact hr.inj j j' o o' b c c' hj hj' hi hi'
theorem Fin.deadO {G0 H:aE} {r:AV} {id k sz ty:Nat} {ob:Ob} (hH:H.get id=some ob) (hk:ob.g < k) (hsz:0 < ob.sz) (hs:ob.sz=sz) (ht:ob.ty=ty):Fin G0 H r ((id,⟨k,sz,ty,[]⟩)::H) r:=by intro G hG I ι w v h1 h2 h3;subst hs ht;exact⟨_,_,h1.deadK hH hk hsz,h2.trans (Step.deadK hH hk),h3.mono h1 (Step.deadK hH hk)⟩
theorem Fin.bump {G0 H:aE} {id k g off n sz ty:Nat} {ob:Ob} {rows:List (List AV)} (hH:H.get id=some ob) (hg:ob.g=g) (hk:g < k) (hs:ob.sz=sz) (ht:ob.ty=ty) (hr:ob.rows=rows):Fin G0 H (.osl id g off n) ((id,⟨k,sz,ty,rows⟩)::H) (.osl id k off n):=by
 intro G hG I ι w v h1 h2 h3;subst hg hs ht hr;obtain ⟨k2,k3⟩:=Rel.tick (H':=(id,⟨k,ob.sz,ob.ty,ob.rows⟩)::H) (ob':=⟨k,ob.sz,ob.ty,ob.rows⟩) h1 hH hk rfl rfl rfl (get_cons_same _ _ _) (fun j hj=>get_cons_other _ _ hj);refine⟨I,ι,k2,h2.trans k3,?_⟩;obtain ⟨q1,q2⟩:=gJ h3 hH rfl;have hz:=mC h3 hH rfl;have hone:v.oneCell'=true:=by
  rcases q2 with⟨b,cap,oo,_,e,_⟩|⟨_,e,_⟩<;>subst e<;>rfl
 exact .osl _ (get_cons_same _ _ _) (aHx _) hone fun _=>⟨hz,q1,q2⟩
end
section
section
variable {P:Program} {G0:aE} {N:Nat} {Q:Exit→bZ→aE→Prop} {E:bZ} {H:aE} {code:Code}
theorem aBw {t id sz:Nat} {ty:TypeId} (hx:E.get t=some (.pv .nils)) (hid:H.get id=none) (hsz:Nat.blt 0 sz=true) (h:iF P G0 N code Q ((t,.osc id 0 0 0 0)::E) ((id,⟨0,sz,ty,[]⟩)::H)):iF P G0 N code Q E H:=by
 intro G hG a w hs;obtain ⟨I,ι,hr,hst,he⟩:=hs.rel;obtain ⟨v,hv,hvr⟩:=he t _ hx;have hz:0 < sz:=by simpa [Nat.blt_eq] using hsz
 obtain ⟨k1,k2⟩:=Rel.adopt (sz:=sz) (ty:=ty) hr hid hz;have hvn:v=.slice none 0 0:=by
  have:=hvr.pv_inv;cases this;rfl
 subst hvn;refine h G hG a w ⟨hs.defers,hs.size,I,_,k1,hst.trans k2,fun u x hu=>?_⟩;by_cases e:t=u
 ·subst e;rw [bZ.get_cons_same] at hu;cases hu;exact⟨_,hv,.osc ⟨0,sz,ty,[]⟩ (get_cons_same _ _ _) (aHx _) rfl fun _=>⟨hz,aHx _,.inr ⟨by simp,rfl,rfl,rfl,rfl⟩⟩⟩
 rw [bZ.get_cons_other _ _ e] at hu;obtain ⟨c,h1,h2⟩:=he u x hu;exact⟨c,h1,h2.mono hr k2⟩
end
section
variable {P:Program} {N:Nat} {o:Oper} {E:bZ} {H:aE} {T:TypeId} {x y:Operand} {Q:AV→aE→Prop}
theorem MJ {F:FuncId} {f y:Operand} {at_:Array TypeId} {v:AV} (ho:o.op=.call {callee:=.value f,args:=#[.const (.slice none 0 0),y],argTypes:=at_}) (hf:aS E f=some (.pv (.fn F)))
  (hc:∀ (args:Array Value) (w:World),(callFunc F args).run P w=.ok (.enter F args) w) (hv:aS E y=some v) (h:aK P F [.pv .nils,v] H Q):TU P N o E H Q:=by
 intro a w I ι _ _ hr he K QQ hk;have hfv:=(aN he hf).fn_inv;unfold Oper.wpW execOp;simp only [ho,resolve,hfv,Deferred.ofValue,Sem.run_bind,Sem.run_pure,Result.andThen_ok,invoke,hc,Oper.uponW_enter];refine(h I ι w _ hr (by simp) (fun i u b hu hb=>?_)).mono ?_
 ·match i with
  | 0=>simp [Act.eval] at hu hb;subst hu hb;exact .pv .nils
  | 1=>simp at hu hb;subst hu hb;exact aN he hv
  | i+2=>simp at hb
 rintro e w' ⟨r,H',I',ι',v,rfl,hq,k1,k2,k3⟩;exact hk v w' I' ι' r H' hq k1 k2 k3
end
theorem aK.congrH {P:Program} {f:FuncId} {args:List AV} {H H1 H2:aE} {r0:AV} (h:aK P f args H (fun r H'=>r=r0∧H'=H1)) (he:∀ j,H2.get j=H1.get j):aK P f args H (fun r H'=>r=r0∧H'=H2):=by intro I ι w vs hr hl hv;refine(h I ι w vs hr hl hv).mono ?_;rintro e w' ⟨r,H',I',ι',v,rfl,⟨rfl,rfl⟩,k1,k2,k3⟩;obtain ⟨q1,q2⟩:=k2.congr he;exact⟨r,H2,I',ι',v,rfl,⟨rfl,rfl⟩,k1.mono k2 q2,q1,k3.trans q2⟩
theorem aK.frameS {P:Program} {f:FuncId} {args:List AV} {H0 H:aE} {r0:AV} (h:aK P f args H0 (fun r H'=>r=r0∧H'=H0)) (hs:Sub H0 H) (hc:bT H0) (ha:∀ a∈args,Clo H0 a):aK P f args H (fun r H'=>r=r0∧H'=H):=by
 refine(aK.frame h hs hc ha (fun id hi=>.inl hi)).congrH fun j=>?_;rw [iR];cases e:H0.get j with
 | some o=>exact hs j o e
 | none=>rfl
end
section
section
variable {P:Program} {N:Nat} {o:Oper} {E:bZ} {H:aE} {S T t t' e:TypeId} {x y:Operand} {id g n:Nat} {ob:Ob}
theorem ZN {lo hi mx:Operand} {rows rows':List (List PV)} {l h sz:Nat} (ho:o.op=.slice T x (some lo) (some hi) (some mx)) (hS:fP P T e sz) (hx:aS E x=some (.pv (.sl rows))) (hrows:∀ r∈rows,r.length=sz)
  (hlo:aS E lo=some (.pv (.int .i64 l))) (hhi:aS E hi=some (.pv (.int .i64 h))) (hmx:aS E mx=some (.pv (.int .i64 h))) (h1:l≤h) (h2:h≤rows.length) (hne:rows≠[]) (hr:(rows.take h).drop l=rows'):bS P N o E H (.pv (.sl rows')) H:=by
 subst hr;exact .of_run fun a w I ι _ he=>by
  have hv:=(aN he hx).pv_inv;have e0:=(aN he hlo).int_inv;have e1:=(aN he hhi).int_inv;have e2:=(aN he hmx).int_inv;generalize hc:a.eval x=c at hv;have hT:=hS.1;have hs:=hS.2.1;have hTe:P.elem T=e:=by simp [Program.elem,hT]
  have hT':P.underlying T=some (.slice (P.elem T)):=by rw [hTe,hT]
  cases hv with
  | nilsl=>exact absurd rfl hne
  | empsl a0=>exact absurd rfl hne
  | sl b off cap sz' _ cs hI hsz hlen hcap hcc hpp =>
   have hsz':sz'=sz:=by
    obtain ⟨r,rs,e⟩:=List.exists_cons_of_ne_nil hne;have hm:r∈rows:=by rw [e];simp
    rw [← hlen r hm,hrows r hm]
   subst hsz';have hb:(Instr.sliceBounds true rows.length cap (some (.int .i64 l)) (some (.int .i64 h)) (some (.int .i64 h))).run P w=.ok (l,h,h) w:=by
    have hsb:∀ (n y:Nat) (c:BoundsCode),n≤y→(Instr.sliceBound (.int .i64 n) y c).run P w=.ok n w:=fun n y c hn=>by
     have:=run_sliceBound (P:=P) w .i64 n y c (by omega) (by omega)
     simpa using this
    simp [Instr.sliceBounds,hsb _ _ _ h1,hsb _ _ _ (aHx h),hsb h cap _ (by omega)]
   have htl:(rows.take h).length=h:=by rw [aIF];omega
   have hget:∀ (i:Nat) (r:List PV),(rows.take h)[i]?=some r→rows[i]?=some r:=fun i r hr=>by
    rw [List.getElem?_take] at hr
    split at hr
    ·exact hr
    cases hr
   have hcut:=PRep.cut (w:=w) (I:=I) (b:=b) (off:=off) (cap:=h) (l:=l) (h:=h) (rows:=rows.take h) (cs:=cs) hI hsz (fun r hr=>hlen r (List.mem_of_mem_take hr)) (by rw [htl];exact aHx _)
    (fun i r hr k p hk=>hcc i r (hget i r hr) k p hk) (fun i r hr k p hk=>hpp i r (hget i r hr) k p hk) h1 (by rw [htl];exact aHx _)
   rw [List.take_take,Nat.min_self] at hcut;refine⟨_,?_,.pv hcut⟩;simp only [execOp,ho,hc];have:=run_slice_any (P:=P) w T (some ⟨b,off,none⟩) rows.length cap hT' (some (.int .i64 l)) (some (.int .i64 h)) (some (.int .i64 h));simp only [Option.map_some,run_sliceAt_slice w T _ _ _ _ hT',e0,e1,e2,Sem.run_bind,this,hb,hTe,hs,sliced,Result.andThen_ok,Sem.run_pure];by_cases ec:h=l<;>simp [ec]
end
end
end Go.Abs
namespace Go.Proofs.YtmkgeogoojcciaaGreatDoor
open Go.Proofs.Tryz
open Go.Abs
def aBv (u:Bool):AV:=if u then .ref 2001 0 0 0 else .pv .nilp
def vG (buf:AV) (u:Bool):Ob:=⟨0,2,138,[[aBv u,buf]]⟩
def RB (g:Nat) (l:List UInt8) (u:Bool):aE:=[(2001,vG (.osl 2002 g 0 l.length) u),(2002,⟨g,1,5,bP l⟩)]
theorem tU (l:List UInt8):(bP l).length=l.length:=by simp [bP]
theorem yK (H:aE) (l:List UInt8):∀ r∈bP l,∀ a∈r,Clo H a:=by intro r hr a ha;obtain ⟨b,_,rfl⟩:=List.mem_map.1 hr;rw [aHu] at ha;subst ha;simp
theorem yL (l m:List UInt8):bP l++bP m=bP (l++m):=by simp [bP]
theorem tV {H:aE} {g n:Nat} {u:Bool} (h1:(H.get 2001).isSome=true) (h2:(H.get 2002).isSome=true):∀ r∈(vG (.osl 2002 g 0 n) u).rows,∀ a∈r,Clo H a:=by
 intro r hr a ha;simp only [vG,aHu] at hr;subst hr;simp only [aID,aIH,or_false] at ha;rcases ha with rfl|rfl
 ·cases u<;>simp [aBv,h1]
 simp [h2]
theorem QL (buf:AV) (u:Bool) (K:aE):aK Tryz.prog 116 [.ref 2001 0 0 0] ((2001,vG buf u)::K) (fun r H'=>r=.tup []∧H'=(2001,vG buf true)::K):=by
 cases u with
 | false =>
  refine Bd func116 rfl ntmps116<|Sr<|Dd aB<|Dd dY<|Dd (cI E7)<|Dd (cW RD)<|Dd (by exact dF rfl mJ rfl rfl)<|Zz ?_;refine Cn ?_ ?_<;>intro hc1
  ·refine Rg<|Dd aB<|Dd aB<|Dd (by exact II (n:=1) rfl mJ TQ (by kernel_rfl) rfl rfl rfl (by simp [vG]))<|Dd (by exact UX rfl rfl func143 rfl rfl rfl rfl rfl (aBZ (.ref 2001 0 0 0)))<|Dd (by exact EJ (n:=1) rfl TQ mJ (by kernel_rfl) rfl rfl rfl (by simp [vG]) rfl rfl)<|Dd dY<|Dd (cI E7)<|Uu (by exact bU rfl aF5 rfl rfl rfl rfl rfl rfl (aIE rfl) rfl rfl)<|Zz ?_;exact eQ (.inl rfl) rfl (Fin.get' (H':=(2001,vG buf true)::K) (fun j=>lD 2001 (vG buf true) (vG buf false) K j)) ⟨rfl,rfl⟩
  cases hc1
 | true =>
  refine Bd func116 rfl ntmps116<|Sr<|Dd aB<|Dd dY<|Dd (cI E7)<|Dd (cW RD)<|Dd (by exact bR rfl mJ rfl rfl rfl rfl)<|Zz ?_;refine Cn ?_ ?_<;>intro hc1
  ·cases hc1
  refine Sr<|Dd aB<|Dd dY<|Dd (cI E7)<|Dd (cW RD)<|Dd aB<|Dd (by exact MM (n:=1) rfl mJ (by kernel_rfl) rfl rfl rfl rfl)<|Zz ?_;refine Cn ?_ ?_<;>intro hc2
  ·cases hc2
  refine aF ?_;exact eQ (.inl rfl) rfl Fin.refl ⟨rfl,rfl⟩
theorem aDn {i j:Nat} {a b a' b':Ob} {K:aE} (h:i≠j) (k:Nat):aE.get ((i,a)::(j,b)::K) k=aE.get ((i,a)::(j,b)::(i,a')::(j,b')::K) k:=by
 simp only [aE.get];cases e1:Nat.beq i k with
 | true=>rfl
 | false=>cases e2:Nat.beq j k<;>simp
theorem LG:∀ i,Tryz.prog.info? 5=some i→i.zero=some (.int .u8 0):=fun i hi=>by
 have h:(Tryz.prog.info? 5).map (·.zero)=some (some (.int .u8 0)):=by kernel_rfl
 rw [hi] at h;exact Option.some.inj h
theorem aEJ (g:Nat) (l m:List UInt8) {n:Nat} (h:m.length=n):RB (g+1) (l++m) true=[(2001,vG (.osl 2002 (g+1) 0 (l.length+n)) true),(2002,⟨g+1,1,5,bP (l++m)⟩)]:=by subst h;simp [RB]
theorem yT (g:Nat) (l:List UInt8) (u:Bool) (s:ByteArray) (hl:l.length+s.size < 70368744177664):aK Tryz.prog 86 [.ref 2001 0 0 0,sv s] (RB g l u) (fun r H'=>r=.tup [iv (s.size:Int),.pv SS]∧H'=RB (g+1) (l++s.data.toList) true):=by refine Bd func86 rfl ntmps86<|Sr<|Dd aR<|Dd aR<|Zz<|Sr<|Dd aB<|Dd (by exact aA rfl rfl call116 rfl (QL _ u _))<|Zz<|Sr<|Dd aB<|Dd aB<|Dd dY<|Dd (cI yD)<|Dd (cW gL)<|Dd aB<|Dd (by exact nA rfl sZ aC X8 LG rfl rfl rfl rfl rfl (tU l) rfl (by omega) rfl (yL l s.data.toList))<|Dd dY<|Dd (cI yD)<|Uu (by exact bU rfl sizeOf50 rfl rfl rfl rfl rfl rfl (aIE rfl) rfl rfl)<|Zz<|Sr<|Dd aB<|Dd (mD aC)<|Dd aR<|Dd aR<|Zz<|aH ?_;rw [aEJ g l s.data.toList (n:=s.size) rfl];refine fF (H':=[(2001,vG (.osl 2002 (g+1) 0 (l.length+s.size)) true),(2002,⟨g+1,1,5,bP (l++s.data.toList)⟩)]) (.inr rfl) rfl (aI rfl) (aI rfl) (Fin.get' (fun j=>aDn (by decide) j)) ?_;exact Qq
def YR (g:Nat) (l:List UInt8) (u:Bool):aE:=[(2002,⟨g+1,1,5,[]⟩),(2001,vG (.osl 2002 g 0 l.length) u)]
theorem VJ {i j:Nat} {a b a':Ob} {K:aE} (h:i≠j) (k:Nat):aE.get ((i,a)::(j,b)::K) k=aE.get ((i,a)::(j,b)::(i,a')::K) k:=by
 simp only [aE.get];cases e1:Nat.beq i k with
 | true=>rfl
 | false=>cases e2:Nat.beq j k<;>simp
theorem aEU (g:Nat) (l:List UInt8) (u:Bool) (hl:l.length < 70368744177664):aK Tryz.prog 88 [.ref 2001 0 0 0] (RB g l u) (fun r H'=>r=sv ⟨l.toArray⟩∧H'=YR g l u):=by
 by_cases h0:l=[]
 ·subst h0;refine Bd func88 rfl ntmps88<|Sr<|Dd aR<|Zz<|Sq<|bF follows<|Cq aB<|Cq dY<|Cq (cI yD)<|Cq (cW gL)<|Cq (by exact GH rfl AK rfl rfl rfl)<|Cq aB<|Cq dY<|Cq (cI yD)<|Cq (cW gL)<|Cq (by exact cM rfl cL rfl rfl rfl)<|Cq (by exact BB rfl rfl rfl)<|Cq aR<|cA<|Kr<|aH ?_;refine bI (H':=(YR g [] u)) (.inr rfl) rfl (aI rfl) (Fin.trans (Fin.deadO (id:=2002) (k:=g+1) (ob:=⟨g,1,5,bP []⟩) rfl (Nat.lt_succ_self g) Nat.zero_lt_one rfl rfl) (Fin.get' (fun j=>VJ (by decide) j))) ?_;exact Qq
 have hpos:0 < l.length:=List.length_pos_iff.2 h0;refine Bd func88 rfl ntmps88<|Sr<|Dd aR<|Zz<|Sq<|bF follows<|Cr [2001] (fun _ _=>aB)<|Cr [2001] (fun H1 hH=>by exact bK rfl rfl ((hH _ rfl).trans rfl) rfl)<|Cr [2001] (fun _ h=>fh yD h)<|Cr [2001] (fun _ h=>lh gL h)<|Cr [2002] (fun H1 hH=>by exact IK rfl rfl ((hH _ rfl).trans rfl) rfl hpos)<|Cr [2001] (fun _ _=>aB)<|Cr [2001] (fun H1 hH=>by exact bK rfl rfl ((hH _ rfl).trans rfl) rfl)<|Cr [2001] (fun _ h=>fh yD h)<|Cr [2001] (fun _ h=>lh gL h)<|Cr [2002] (fun H1 hH=>by exact cM rfl cL rfl ((hH _ rfl).trans rfl) rfl)<|Cp [2001,2002] (fun H1 hH=>by exact C5 (l:=l) rfl AK (by kernel_rfl) rfl rfl ((hH _ rfl).trans rfl) rfl rfl rfl rfl rfl hpos (by omega) rfl)<|Cr [] (fun _ _=>aR)<|cA<|Kr<|aH ?_;refine bI (H':=(YR g l u)) (.inr rfl) rfl (aI rfl) (Fin.get' (fun j=>VJ (by decide) j)) ?_;exact Qq
def aBt:aE:=[(2001,vG (.pv .nils) false)]
theorem IH (s:ByteArray) (c:Int) (H:aE):aK Tryz.prog 186 [.pv (.str s),.pv (.int .u8 c)] H (fun r H'=>r=.pv (.int .i64 (Lib.indexByte s.data.toList c.toNat.toUInt8))∧H'=H):=by refine Pu ?_;exact Bd func186 rfl ntmps186<|Sr<|Dd aR<|Zz<|Sr<|Dd aB<|Dd aB<|Dd (by exact UX rfl rfl func196 rfl rfl rfl rfl rfl (IZ s c))<|Dd aR<|Zz<|aH<|Rt<|Qq
abbrev sNil:ByteArray:=⟨#[]⟩
theorem cC.bld0 {E E':bZ} (hE:NzE E [(2002,⟨0,1,5,[]⟩),(2001,vG (.osl 2002 0 0 0) false)] 2002 E'):cC [] E aBt E' (RB 0 [] false):=by refine(cC.nz (G0:=[]) (H:=aBt) (H':=[(2001,vG (.osl 2002 0 0 0) false)]) 2002 1 5 rfl rfl hE ⟨⟨vG (.pv .nils) false,rfl,rfl,rfl,rfl,.inr ⟨_,_,rfl,rfl,⟨.same (by simp [aBv]),⟨.own,trivial⟩⟩⟩⟩,trivial⟩ trivial).trans ?_;exact cC.get (fun _=>rfl) (fun j=>BV (by decide) j)
def bs (l:List ByteArray):List (List UInt8):=l.map fun s=>s.data.toList
def aHP (l:List ByteArray):Nat:=(l.map ByteArray.size).sum
def lQ {α:Type} (f:α→ByteArray) (l:List α):Nat→ByteArray
 | 0=>sNil
 | k+1=>((l[k]?).map f).getD sNil
def P5 (p:Nat→Bool) (n:Nat):Int:=match (List.range n).find? p with|some k=>(k:Int)|none => -1
def OM (p:Nat→Bool) (n:Nat):Nat:=match (List.range n).find? p with|some k=>k+1|none=>n
theorem HB {p:Nat→Bool} {n k:Nat} (hk:k < n) (hp:p k=true) (hno:∀ j,j < k→p j=false):(List.range n).find? p=some k:=by rw [List.find?_range_eq_some];exact⟨hp,by simpa using hk,fun j hj=>by simp [hno j hj]⟩
theorem HC {p:Nat→Bool} {n:Nat} (hno:∀ j,j < n→p j=false):(List.range n).find? p=none:=by rw [List.find?_eq_none];intro x hx;simp [hno x (List.mem_range.1 hx)]
theorem S1 (fv:AV) (l:List ByteArray) (p:Nat→Bool) (Hs:Nat→aE) (hl:l.length < 4611686018427387904) (hf:∀ k s,l[k]?=some s→iL Tryz.prog fv [sv s] (Hs k) (fun r H'=>r=bv (p k)∧H'=Hs (k+1))) :
  aK Tryz.prog 124 [.pv (aX l),fv] (Hs 0) (fun r H'=>r=iv (P5 p l.length)∧H'=Hs (OM p l.length)):=by
 have hml:(l.map encStr).length=l.length:=aHr _;refine Bd func124 rfl ntmps124<|Sr<|Dd aR<|Zz<|Sq<|Sr<|Dd aB<|Dd (jY aO)<|Dd aB<|Zz<|aJ ?_;refine bG (σ:=Nat) (fun k=>([(0,.pv (aX l)),(1,fv),(7,iv ((l.map encStr).length:Int)),(8,iv (k:Int))],Hs k)) (fun k=>k≤l.length∧∀ j,j < k→p j=false) (fun k=>l.length - k) 0 ⟨by omega,by omega⟩ ?_ ?_
 ·exact E0
 rintro k ⟨hk,hno⟩;refine Sr<|Dd cP<|Zz<|Sq ?_;refine Cn ?_ ?_<;>intro hc1
 ·have hlt:k < l.length:=by have:=aHn hc1;omega
  obtain ⟨s,hs⟩:=aY hlt;have hi:=cV (f:=encStr) hs;have hfo:=hf k s hs;refine aF<|Sq<|aJ<|Sr<|Dd aB<|Dd aR<|Zz<|Sr<|Dd aB<|Dd aB<|Dd aB<|Dd (sU cD)<|Dd (gW aQ)<|Dd (by exact kZ rfl rfl rfl (hfo))<|Zz ?_;refine Cn ?_ ?_<;>intro hc2
  ·refine Sr<|Dd aB<|Dd aR<|Zz<|aH ?_;exact bI (H':=Hs (k+1)) (.inr rfl) rfl (aI rfl) Fin.refl ⟨by rw [P5,HB hlt hc2 hno],by rw [OM,HB hlt hc2 hno]⟩
  refine aF<|Rg<|Dd rL<|Dd aB<|Zz ?_;refine⟨k+1,⟨by omega,fun j hj=>?_⟩,by omega,E0⟩;by_cases e:j=k
  ·subst e;exact hc2
  exact hno j (by omega)
 have hge:k=l.length:=by have:=aHo hc1;omega
 subst hge;refine aV<|Sr<|Dd aR<|Zz<|aH ?_;exact bI (H':=Hs l.length) (.inr rfl) rfl (aI rfl) Fin.refl ⟨by rw [P5,HC hno],by rw [OM,HC hno]⟩
theorem XY (p:Nat→Bool) (n:Nat):decide (0≤P5 p n)=(List.range n).any p:=by
 unfold P5;cases h:(List.range n).find? p with
 | none =>
  have:(List.range n).any p=false:=by
   rw [List.find?_eq_none] at h;rw [List.any_eq_false];exact h
  simp [this]
 | some i =>
  have:(List.range n).any p=true:=List.any_eq_true.2 ⟨i,List.mem_of_find?_eq_some h,List.find?_some h⟩;simp [this]
theorem I9 (fv:AV) (l:List ByteArray) (p:Nat→Bool) (Hs:Nat→aE) (hl:l.length < 4611686018427387904) (hf:∀ k s,l[k]?=some s→iL Tryz.prog fv [sv s] (Hs k) (fun r H'=>r=bv (p k)∧H'=Hs (k+1))) :
  aK Tryz.prog 93 [.pv (aX l),fv] (Hs 0) (fun r H'=>r=bv ((List.range l.length).any p)∧H'=Hs (OM p l.length)):=by
 refine Bd func93 rfl ntmps93<|Sr<|Dd aR<|Zz<|Sr<|Dd aB<|Dd aB<|Dd (by exact aA rfl rfl call124 rfl (S1 fv l p Hs hl hf))<|Dd CD<|Dd aR<|Zz<|aH ?_;exact bI (H':=Hs (OM p l.length)) (.inr rfl) rfl (aI rfl) Fin.refl ⟨by rw [XY],rfl⟩
end Go.Proofs.YtmkgeogoojcciaaGreatDoor
