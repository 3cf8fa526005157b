/-
  Parts of the proof: rules of an abstract program logic, contracts of functions, plain laws. Conditions: each theorem's own.
-/
import Derived.Test.YtmkgeogoojcciaaGreatDoorKS5M8
set_option linter.unusedVariables false
set_option linter.unusedSimpArgs false
set_option maxRecDepth 100000
set_option maxHeartbeats 8000000
namespace Go.Proofs
theorem pP:type_of% Tryz.call12:=Tryz.call12
theorem aA3:type_of% Tryz.call13:=Tryz.call13
theorem vQ:type_of% Tryz.call14:=Tryz.call14
theorem aA2:type_of% Tryz.call17:=Tryz.call17
theorem TW:type_of% Tryz.call18:=Tryz.call18
theorem aA0:type_of% Tryz.call21:=Tryz.call21
theorem vP:type_of% Tryz.call22:=Tryz.call22
theorem aAZ:type_of% Tryz.call23:=Tryz.call23
theorem vO:type_of% Tryz.call30:=Tryz.call30
end Go.Proofs
namespace Go.Proofs.YtmkgeogoojcciaaGreatDoor
open Go.Proofs.Tryz
open Go.Abs Go.ChangeShapes Go.WideShapes Go.ChangeAt Go.RowKit
theorem own:ownKnob Tryz.prog.godebug=none:=by kernel_rfl
theorem LO:laidOutB Tryz.prog=true:=by kernel_rfl
theorem IB {H:Type} {l:List (DataW H)} (hk:Rows.uptoSmall H l=true):Rows.uptoBulkAll l≤1048576:=aAe hk
theorem OR {H:Type} {l r:List (DataW H)} {n:Nat} (h:Rows.uptoBulkAll (l++r)≤n):Rows.uptoBulkAll l≤n:=by
 induction l generalizing n with
 | nil=>simp [Rows.uptoBulkAll]
 | cons x l ih =>
  simp only [List.cons_append,Rows.uptoBulkAll] at h ⊢;have:=ih (n:=n - Rows.uptoBulk x) (by omega);omega
def WP (n:Int):Prop:=(Lit.int .i64 n).wf=true
theorem WP.bd {n:Int} (h:WP n) : -9223372036854775808≤n∧n≤9223372036854775807:=by simpa [WP,Lit.wf,IntKind.min,IntKind.max,IntKind.signed,IntKind.bits] using h
theorem Z4 {B n:Nat} {ps:List PV} (h:Sh Tryz.prog B (n+1) 5 ps):∃ i,ps=[.int .u8 i]∧0≤i∧i≤255:=by obtain ⟨i,rfl,hi⟩:=yP bQ h;exact⟨i,rfl,by simpa [Lit.wf,IntKind.min,IntKind.max,IntKind.signed,IntKind.bits] using hi⟩
theorem XK {B n:Nat} {ps:List PV} (h:Sh Tryz.prog B (n+2) 31 ps):∃ l,ps=[aW l]∧l.length≤B∧∀ s,s∈l→s.size≤B:=by obtain ⟨l,rfl,h1,h2⟩:=DO (f:=encStr) (good:=fun s=>s.size≤B) aP h (fun r hr=>IN aL hr);exact⟨l,rfl,h1,h2⟩
theorem QF {P:Program} {B n k:Nat} {t e:TypeId} {ps:List PV} (ht:P.underlying t=some (.array k e)) (h:Sh P B (n+1) t ps):X9 (fun t ps=>Sh P B n t ps) P.cellsOf (vF P e 0 k) ps:=by unfold Sh at h;rw [ht] at h;exact h
def P3 (B:Nat) (p:ByteArray×ByteArray):Prop:=p.1.size≤B∧p.2.size≤B
theorem Z6 {B n:Nat} {ps:List PV} (h:Sh Tryz.prog B (n+2) 66 ps):∃ p,ps=vA p∧P3 B p:=by obtain ⟨_,_,rfl,_,h1,_,_,rfl,_,h2,rfl⟩:=QF nG h;obtain ⟨s,rfl,q1⟩:=IN aL h1;obtain ⟨t,rfl,q2⟩:=IN aL h2;exact⟨(s,t),rfl,q1,q2⟩
theorem Y1 {B n:Nat} {ps:List PV} (h:Sh Tryz.prog B (n+3) 35 ps):∃ l,ps=[UB l]∧l.length≤B∧∀ p,p∈l→P3 B p:=by obtain ⟨l,rfl,h1,h2⟩:=DO (f:=vA) (good:=P3 B) nH h (fun r hr=>Z6 hr);exact⟨l,rfl,h1,h2⟩
def WS (B:Nat) (o:GOp):Prop:=WP o.kind∧(o.put.length≤B∧∀ p,p∈o.put→P3 B p)∧(o.drop.length≤B∧∀ s,s∈o.drop→s.size≤B)∧WP o.a∧WP o.b∧WP o.c
def yJ (B:Nat) (l:List GOp):Prop:=l.length≤B∧∀ o,o∈l→WS B o
theorem Z5 {B n:Nat} {ps:List PV} (h:Sh Tryz.prog B (n+4) 37 ps):∃ o,ps=uZ o∧WS B o:=by obtain ⟨_,_,rfl,_,h1,_,_,rfl,_,h2,_,_,rfl,_,h3,_,_,rfl,_,h4,_,_,rfl,_,h5,_,_,rfl,_,h6,rfl⟩:=M0 gE h;obtain ⟨k,rfl,q1⟩:=yP bT h1;obtain ⟨l,rfl,q2⟩:=Y1 h2;obtain ⟨d,rfl,q3⟩:=XK h3;obtain ⟨a,rfl,q4⟩:=yP bT h4;obtain ⟨b,rfl,q5⟩:=yP bT h5;obtain ⟨c,rfl,q6⟩:=yP bT h6;exact⟨⟨k,l,d,a,b,c⟩,rfl,q1,q2,q3,q4,q5,q6⟩
theorem Y0 {B n:Nat} {ps:List PV} (h:Sh Tryz.prog B (n+5) 22 ps):∃ l,ps=[lH l]∧yJ B l:=by obtain ⟨l,rfl,h1,h2⟩:=DO (f:=uZ) (good:=WS B) nI h (fun r hr=>Z5 hr);exact⟨l,rfl,h1,h2⟩
theorem yJ.len {l:List GOp} (h:yJ 1048576 l):l.length < 1000000000:=Nat.lt_of_le_of_lt h.1 (by decide)
theorem yJ.ok {l:List GOp} (h:yJ 1048576 l):∀ x∈l,YM x:=fun x hx=>by
 obtain ⟨_,⟨h1,h2⟩,⟨h3,_⟩,_⟩:=h.2 x hx;exact⟨by omega,by omega,fun p hp=>by have:=h2 p hp;unfold P3 at this;omega⟩
theorem yJ.ka {l:List GOp} (h:yJ 1048576 l):∀ x∈l,x.a≤9223372036854775807:=fun x hx=>(h.2 x hx).2.2.2.1.bd.2
end Go.Proofs.YtmkgeogoojcciaaGreatDoor
namespace Go.Proofs.YtmkgeogoojcciaaGreatDoor
open Go.Proofs.Tryz
open Go.Abs Go.Lib
theorem OZ {P:Program} {G0:aA} {N:Nat} {Q:Exit→bH→aA→Prop} {E:bH} {H:aA} {cc:Code} {α β γ δ ε ζ:Type} (S:α→β→γ→δ→ε→ζ→bH×aA) (J:α→β→γ→δ→ε→ζ→Prop) (μ:α→β→γ→δ→ε→ζ→Nat) (a0:α) (b0:β) (c0:γ) (d0:δ) (e0:ε) (z0:ζ) (h0:J a0 b0 c0 d0 e0 z0) (hin:cA G0 E H (S a0 b0 c0 d0 e0 z0).1 (S a0 b0 c0 d0 e0 z0).2)
  (round:∀ a b c d e z,J a b c d e z→gA P G0 N cc (qS (fun E' H'=>∃ a' b' c' d' e' z',J a' b' c' d' e' z'∧μ a' b' c' d' e' z' < μ a b c d e z∧cA G0 E' H' (S a' b' c' d' e' z').1 (S a' b' c' d' e' z').2) Q) (S a b c d e z).1 (S a b c d e z).2):gA P G0 N (.loop cc) Q E H:=by
 refine O0 (α:=α) (β:=β) (γ:=γ) (δ:=δ) (ε:=ε×ζ) (fun a b c d s=>S a b c d s.1 s.2) (fun a b c d s=>J a b c d s.1 s.2) (fun a b c d s=>μ a b c d s.1 s.2) a0 b0 c0 d0 (e0,z0) h0 hin ?_;intro a b c d s hs;have h:=round a b c d s.1 s.2 hs;have e:(fun(E':bH) (H':aA)=>∃ (a':α) (b':β) (c':γ) (d':δ) (s':ε×ζ),J a' b' c' d' s'.1 s'.2∧μ a' b' c' d' s'.1 s'.2 < μ a b c d s.1 s.2∧cA G0 E' H' (S a' b' c' d' s'.1 s'.2).1 (S a' b' c' d' s'.1 s'.2).2)=(fun E' H'=>∃ a' b' c' d' e' z',J a' b' c' d' e' z'∧μ a' b' c' d' e' z' < μ a b c d s.1 s.2∧cA G0 E' H' (S a' b' c' d' e' z').1 (S a' b' c' d' e' z').2):=by
  funext E' H';exact propext ⟨fun⟨a',b',c',d',s',h⟩=>⟨a',b',c',d',s'.1,s'.2,h⟩,fun⟨a',b',c',d',e',z',h⟩=>⟨a',b',c',d',(e',z'),h⟩⟩
 rw [e];exact h
theorem tY {d:DSt} {N place a n:Nat} {hd:Bool} (h:Calm d N) (hp:place < N) (ha:a < 10) (hn:n < 10000000):(mL d place a n hd).1=0∧Calm (mL d place a n hd).2 N:=by
 rw [mL];by_cases e:bM d place=iT place a n hd
 ·rw [aAh e];exact⟨rfl,h⟩
 rw [aAg e];obtain ⟨a1,a2,_⟩:=lO h (place:=place) (L:=[zS]) (by rw [List.length_singleton];omega) (fun t ht=>by rw [aAl.1 ht];exact WN) (by rw [List.length_singleton];omega);by_cases e2:(iK d place [zS]).1=0∧hd=true
 ·rw [aAh e2];obtain ⟨b1,b2,_⟩:=lO a2 (place:=place) (L:=[iT place a n hd]) (by rw [List.length_singleton];omega) (fun t ht=>by rw [aAl.1 ht];exact rZ place hd ha hn) (by rw [List.length_singleton];omega);exact⟨b1,b2⟩
 rw [aAg e2];exact⟨a1,a2⟩
theorem RC {l:bP} {x:ByteArray}:x∈l.map Prod.fst↔cW l x≠none:=by rw [Ne,gI,Classical.not_not]
structure Few (k a n:Nat) (l:bP) (c m:Nat):Prop where
 a2:a < 2
 nk:n≤k
 st:dT l c
 nd:fI l
 len:l.length≤m
 sz:∀ x v,cW l x=some v→x.size≤600∧v.size≤600
theorem LP {l:bP} (h:fI l) {p:ByteArray×ByteArray×Nat} (hp:p∈l):cW l p.1=some p.2.1:=by
 induction l with
 | nil=>cases hp
 | cons q r ih =>
  have hn:(q.1::r.map Prod.fst).Nodup:=h;obtain ⟨h1,h2⟩:=List.nodup_cons.1 hn;rcases aAu.1 hp with rfl|hp
  ·show (if p.1=p.1 then some p.2.1 else cW r p.1)=_;rw [aAh rfl]
  have hne:¬ q.1=p.1:=fun e=>h1 (by rw [e];exact List.mem_map_of_mem hp);show (if q.1=p.1 then some q.2.1 else cW r p.1)=_;rw [aAg hne];exact ih h2 hp
theorem Few.mem {k a n:Nat} {l:bP} {c m:Nat} (h:Few k a n l c m):∀ p∈l,p.1.size≤600∧p.2.1.size≤600:=fun p hp=>h.sz _ _ (LP h.nd hp)
theorem Few.text {k a n:Nat} {l:bP} {c m:Nat} (h:Few k a n l c m) (hm:m≤100):(bE l []).length < 100000000000:=by have hl:=h.len;have h1:=mN (l:=l) (P:=[]) (M:=600) (by decide) (by decide) h.mem (fun s hs=>by cases hs) (by rw [List.length_nil];omega);have h8:(2*l.length+2+([]:List ByteArray).length)*(600+22)≤202*622:=Nat.mul_le_mul (by rw [List.length_nil];omega) (by omega);omega
theorem J7 {d:DSt} {N k a n:Nat} {l:bP} {c m:Nat} (hc:Calm d N) (h:Few k a n l c m) (hk:2*k+2≤N) (hk4:k < 4000) (l2:bP) (c2:Nat) (P:List ByteArray) (hst2:dT l2 c2) (hnd2:fI l2) (hl2:l2.length≤6) (hP:P.length≤6) (hz:∀ p∈l2,p.1.size≤600∧p.2.1.size≤600) :
  aH Tryz.prog 14 [.ref 1100 0 0 0,.mp 950 0,.pv (aW P)] ((950,bB l2 c2)::sH d (bV k a n false) (bB l c)) (fun r H'=>∃ e d' n' l' c',r=iv e∧Calm d' N∧Few k a n' l' c' (m+6)∧H'=(950,bB l2 c2)::sH d' (bV k a n' false) (bB l' c')):=by
 have hcm:=C9 hc.inv k a n false l c l2 c2 P hk4 h.a2 h.nk (by omega) h.st h.nd hst2 hnd2 (by omega) (by omega) (fun hw=>pQ hw (by omega) (by omega));refine hcm.mono ?_;have hn2:=hc.inv.ok.n2;have hcn:=hc.inv.n;rintro r H' (⟨_,rfl,rfl⟩|⟨h1,h2,rfl,rfl⟩|⟨h1,h2,rfl,l',c',q1,q2,q3,q4,rfl⟩)
 ·exact⟨_,d,n,l,c,rfl,hc,⟨h.a2,h.nk,h.st,h.nd,by have:=h.len;omega,h.sz⟩,rfl⟩
 ·exfalso;rcases kH k n l2 P with⟨e1,_⟩|⟨e1,e2,e3,e4⟩|⟨e1,_⟩|⟨e1,e2⟩
  ·rw [h1] at e1;cases e1
  ·exact h2 (oA hc (k:=k) (a:=a) (cn:=n) (t:=bE l2 (fP P)) hk (by omega) h.a2 e4).1
  ·rw [h1] at e1;cases e1
  rw [h1] at e1;have:=eB l2 P;omega
 rcases kH k n l2 P with⟨e1,_⟩|⟨e1,e2,e3,e4⟩|⟨e1,_⟩|⟨e1,e2⟩
 ·rw [h1] at e1;cases e1
 ·refine⟨0,_,_,l',c',rfl,(oA hc (k:=k) (a:=a) (cn:=n) (t:=bE l2 (fP P)) hk (by omega) h.a2 e4).2.1,⟨h.a2,e4,q1,q2,by have:=h.len;omega,fun x v hx=>?_⟩,rfl⟩;rw [q4,rN] at hx;by_cases hD:x∈fP P
  ·rw [aAh hD] at hx;cases hx
  rw [aAg hD] at hx;cases e:cW l2 x with
  | none =>
   rw [e] at hx;exact h.sz x v hx
  | some w =>
   rw [e] at hx;obtain rfl:=Option.some.inj hx;have hm:=RC.2 (show cW l2 x≠none by rw [e];exact fun h=>by cases h);obtain ⟨p,hp,rfl⟩:=List.mem_map.1 hm;have:=LP hnd2 hp;rw [e] at this;obtain rfl:=Option.some.inj this;exact hz p hp
 ·rw [h1] at e1;cases e1
 rw [h1] at e1;have:=eB l2 P;omega
theorem M5 {d:DSt} {N k a n:Nat} {l:bP} {c m:Nat} (hc:Calm d N) (h:Few k a n l c m) (hm:m≤100) (hk:2*k+2≤N) (hk4:k < 4000) :
  aH Tryz.prog 21 [.ref 1100 0 0 0] (sH d (bV k a n false) (bB l c)) (fun r H'=>∃ e d' a' n',r=iv e∧Calm d' N∧Few k a' n' l c m∧H'=sH d' (bV k a' n' false) (bB l c)):=by
 have hn2:=hc.inv.ok.n2;have hcn:=hc.inv.n;have hl:=h.len;refine(F0 hc.inv k a n l c hk4 hk h.a2 h.nk (by omega) h.st (by omega) (h.text hm)).mono ?_;rintro r H' (⟨h1,rfl,rfl⟩|⟨h1,rfl,a',n',q1,q2,q3,rfl⟩)
 ·exact⟨_,d,a,n,rfl,hc,h,rfl⟩
 obtain ⟨s1,s2,s3⟩:=HM hc (k:=k) (a:=a) (w:=cE l) hk (by omega) h.a2 h1;rw [s1];exact⟨_,_,a',n',rfl,s2,⟨q1,q2,h.st,h.nd,h.len,h.sz⟩,rfl⟩
theorem F2 {d:DSt} {N place a n:Nat} {hd:Bool} (h:Calm d N) (hp:place < N) (ha:a < 10) (hn:n < 10000000):bM (mL d place a n hd).2 place=iT place a n hd∧∀ q,q≠place→bM (mL d place a n hd).2 q=bM d q:=by
 have hcn:=h.inv.n;rw [mL];by_cases e:bM d place=iT place a n hd
 ·rw [aAh e];exact⟨e,fun q hq=>rfl⟩
 rw [aAg e];obtain ⟨a1,a2,a3⟩:=lO h (place:=place) (L:=[zS]) (by rw [List.length_singleton];omega) (fun t ht=>by rw [aAl.1 ht];exact WN) (by rw [List.length_singleton];omega);have a3:(iK d place [zS]).2.cells=d.cells.set place zS:=a3;have hne:∀ q,q≠place→bM (iK d place [zS]).2 q=bM d q:=fun q hq=>by rw [eL a2,eL h,a3,List.getElem?_set_ne (fun e=>hq e.symm)]
 by_cases e2:(iK d place [zS]).1=0∧hd=true
 ·rw [aAh e2];obtain ⟨b1,b2,b3⟩:=lO a2 (place:=place) (L:=[iT place a n hd]) (by rw [List.length_singleton];omega) (fun t ht=>by rw [aAl.1 ht];exact rZ place hd ha hn) (by rw [List.length_singleton];omega);have b3:(iK (iK d place [zS]).2 place [iT place a n hd]).2.cells=(iK d place [zS]).2.cells.set place (iT place a n hd):=b3;refine⟨?_,fun q hq=>?_⟩
  ·rw [eL b2,b3,List.getElem?_set_self (by have:=a2.inv.n;omega)];rfl
  rw [eL b2,b3,List.getElem?_set_ne (fun e=>hq e.symm),← eL a2];exact hne q hq
 rw [aAg e2];have hf:hd=false:=by
  cases hd with
  | false=>rfl
  | true=>exact absurd ⟨a1,rfl⟩ e2
 refine⟨?_,hne⟩;rw [eL a2,a3,List.getElem?_set_self (by omega),hf];rfl
theorem HT {d:DSt} {N k:Nat} (hc:Calm d N) (hN:4≤N) (hk:k=(N - 2) / 2) (hb:jT d k=false) :
  ∃ d2,d2=(mL (mL d 1 (pI d k) (pH d k) (rT d k)).2 0 (pI d k) (pH d k) (rT d k)).2∧Calm d2 N∧jT d2 k=false∧pI d2 k=pI d k∧pH d2 k=pH d k∧rT d2 k=rT d k∧HZ d2 k (pI d2 k) (pH d2 k)=HZ d k (pI d k) (pH d k)∧mL d2 1 (pI d2 k) (pH d2 k) (rT d2 k)=(0,d2)∧mL d2 0 (pI d2 k) (pH d2 k) (rT d2 k)=(0,d2):=by
 have hn2:=hc.inv.ok.n2;have hcn:=hc.inv.n;have hbd:=wA d k;obtain ⟨a,ha⟩:∃ a,a=pI d k:=⟨_,rfl⟩;obtain ⟨n,hn⟩:∃ n,n=pH d k:=⟨_,rfl⟩;obtain ⟨H,hH⟩:∃ h,h=rT d k:=⟨_,rfl⟩;rw [← ha,← hn] at hbd;rw [← ha,← hn,← hH];obtain ⟨r1,r2⟩:=tY (hd:=H) hc (place:=1) (a:=a) (n:=n) (by omega) (by omega) (by omega);obtain ⟨r3,r4⟩:=tY (hd:=H) r2 (place:=0) (a:=a) (n:=n) (by omega) (by omega) (by omega);obtain ⟨t1,t2⟩:=F2 (hd:=H) hc (place:=1) (a:=a) (n:=n) (by omega) (by omega) (by omega);obtain ⟨t3,t4⟩:=F2 (hd:=H) r2 (place:=0) (a:=a) (n:=n) (by omega) (by omega) (by omega);obtain ⟨d2,hd2⟩:∃ d2,d2=(mL (mL d 1 a n H).2 0 a n H).2:=⟨_,rfl⟩;rw [← hd2] at r4 t3 t4;have u0:bM d2 0=iT 0 a n H:=t3;have u1:bM d2 1=iT 1 a n H:=by rw [t4 1 (by decide),t1]
 have u2:∀ i,bM d2 (2+i)=bM d (2+i):=fun i=>by rw [t4 _ (by omega),t2 _ (by omega)]
 have hop:pI d2 k=a∧pH d2 k=n∧rT d2 k=H∧(H=false→bM d2 0=zS):=by
  cases H with
  | true =>
   obtain ⟨p1,p2,p3⟩:=GU (place:=1) (n:=n) hbd.1 hbd.2 (by omega);have x1:pY d2 k=true:=by rw [pY,u1];exact p3
   refine⟨?_,?_,?_,fun e=>by cases e⟩
   ·rw [pI,x1,aAh rfl,u1];exact p1
   ·rw [pH,x1,aAh rfl,u1];exact p2
   rw [rT,x1];rfl
  | false =>
   have x1:pY d2 k=false:=by rw [pY,u1];exact nM
   have x0:jS k 0 (bM d2 0)=false:=by rw [u0];exact nM
   have hh:pY d k=false∧jS k 0 (bM d 0)=false:=by
    rw [rT] at hH;exact aBE.1 hH.symm
   have a0:a=0:=by rw [ha,pI,hh.1,aAg (by decide),hh.2,aAg (by decide)]
   have n0:n=0:=by rw [hn,pH,hh.1,aAg (by decide),hh.2,aAg (by decide)]
   refine⟨?_,?_,?_,fun _=>u0⟩
   ·rw [pI,x1,aAg (by decide),x0,aAg (by decide),a0]
   ·rw [pH,x1,aAg (by decide),x0,aAg (by decide),n0]
   rw [rT,x1,x0];rfl
 obtain ⟨o1,o2,o3,o4⟩:=hop;obtain ⟨g4,g5⟩:=NX (d:=d) (d':=d2) (k:=k) (a:=a) (n:=n) (fun i _=>by rw [Nat.add_assoc];exact u2 _);refine⟨d2,hd2,r4,?_,o1,o2,o3,by rw [o1,o2];exact g5,?_,?_⟩
 ·rw [jT,← ha,← hn,← hH] at hb;rw [jT,o1,o2,o3,g4];cases e:H with
  | true=>rw [e] at hb;exact hb
  | false =>
   rw [o4 e,decide_eq_true rfl];rw [e] at hb;have:=aBE.1 hb;rw [this.2];rfl
 ·rw [o1,o2,o3,mL,aAh u1]
 rw [o1,o2,o3,mL,aAh u0]
end Go.Proofs.YtmkgeogoojcciaaGreatDoor
namespace Go.Abs
theorem aH.frameQ {P:Program} {f:FuncId} {args:List AV} {H0 H:aA} {R:AV→aA→Prop} (h:aH P f args H0 R) (hs:Sub H0 H) (hc:bF H0) (ha:∀ a∈args,Clo H0 a)
  (hk0:∀ r H1,R r H1→∀ id,(H1.get id).isSome=true→(H0.get id).isSome=true∨H.get id=none):aH P f args H (fun r H'=>∃ K,R r K∧H'=K++H):=by
 intro I ι w vs hr hl hv;refine(h I ι w vs (hr.restrict hs hc) hl (fun i v a h1 h2=>(hv i v a h1 h2).restrict hs (ha a (aAs h2)))).mono ?_;rintro e w' ⟨r,H',I',ι',v,rfl,hR,k1,k2,k3⟩;have hk:=hk0 r H' hR;obtain ⟨ι2,hι2⟩:∃ ι2:cF,ι2=(fun j=>if(H'.get j).isSome=true then ι' j else ι j):=⟨_,rfl⟩;have i1:∀ j o,H'.get j=some o→ι2 j=ι' j:=fun j o hj=>by rw [hι2];simp [hj]
 have i2:∀ j,H'.get j=none→ι2 j=ι j:=fun j hj=>by rw [hι2];simp [hj]
 have g1:∀ j o,H'.get j=some o→aA.get (H'++H) j=some o:=fun j o hj=>by rw [eK,hj]
 have g2:∀ j,H'.get j=none→aA.get (H'++H) j=H.get j:=fun j hj=>by rw [eK,hj]
 have hfr:∀ j o,H.get j=some o→H'.get j=none→H0.get j=none:=fun j o hj hn=>by
  cases e:H0.get j with
  | none=>rfl
  | some o0 =>
   obtain ⟨o',e1,_⟩:=k3.objs j o0 e;rw [hn] at e1;cases e1
 have hno:∀ j o b c,H.get j=some o→H'.get j=none→ι j=some (b,c)→¬ vR ι H0 b:=fun j o b c hj hn hb ⟨j',o',c',hj',hb'⟩=>by
  have:=hr.inj j j' o o' b c c' hj (hs _ _ hj') hb hb';subst this;rw [hfr j o hj hn] at hj';cases hj'
 have hst:Step I ι H w I' ι2 (H'++H) w':=by
  refine⟨k3.os,k3.tape,k3.output,k3.size,fun a ha hn=>k3.froz a ha (fun h=>hn (h.sub hs)),k3.imm,fun b hb=>?_,?_,?_,?_⟩
  ·rcases k3.immNew b hb with h1|h1|h1
   ·exact .inl h1
   ·exact .inr (.inl (h1.sub hs))
   exact .inr (.inr h1)
  ·rintro b ⟨j,o,c,hj,hc⟩;cases e:H'.get j with
   | some o' =>
    rw [i1 j o' e] at hc;rcases k3.own b ⟨j,o',c,e,hc⟩with h1|h1
    ·exact .inl (h1.sub hs)
    exact .inr h1
   | none =>
    rw [i2 j e] at hc;rw [g2 j e] at hj;exact .inl ⟨j,o,c,hj,hc⟩
  ·intro b hb hn;exact k3.keep b hb (fun h=>hn (h.sub hs))
  intro j o hj;cases e:H'.get j with
  | some o' =>
   rcases hk j (by rw [e];rfl)with h1|h1
   ·obtain ⟨o0,e0⟩:=Option.isSome_iff_exists.1 h1;have:=hs _ _ e0;rw [hj] at this;cases this;obtain ⟨o2,q1,q2,q3⟩:=k3.objs j o e0;exact⟨o2,g1 j o2 q1,q2,fun e=>by rw [i1 j o2 q1];exact q3 e⟩
   rw [hj] at h1;cases h1
  | none=>exact⟨o,(g2 j e).trans hj,aAo _,fun _=>⟨i2 j e,rfl,fun _=>aAo _⟩⟩
 have hv':∀ {v:Value} {a:AV},VRel w' I' ι' H' v a→VRel w' I' ι2 (H'++H) v a:=fun hva =>
  hva.mono' (fun _ _=>rfl) (fun _ h=>h) (fun id o ho=>⟨o,g1 id o ho,aAo _,fun _=>⟨i1 id o ho,rfl,fun _=>aAo _⟩⟩)
 refine⟨r,H'++H,I',ι2,v,rfl,⟨H',hR,rfl⟩,hv' k1,⟨k2.imm,fun j o hj=>?_,fun j j' o o' b c c' hj hj' hc hc'=>?_,k2.glob⟩,hst⟩
 ·cases e:H'.get j with
  | some o' =>
   rw [g1 j o' e] at hj;obtain rfl:o'=o:=Option.some.inj hj;exact(k2.obj j o' e).keep (i1 j o' e) (fun _ _ _ _=>⟨rfl,fun h=>h⟩) (fun r _ a _ v hv=>hv' hv)
  | none =>
   rw [g2 j e] at hj;refine(hr.obj j o hj).keep (i2 j e) (fun b' cap' e1 hlt=>⟨k3.keep b' hlt (hno j o b' cap' hj e e1),fun e3 hi=>?_⟩) (fun r _ a _ v hv=>hv.mono hr hst);rcases k3.immNew b' hi with h1|h1|h1
   ·exact e3 h1
   ·exact hno j o b' cap' hj e e1 h1
   omega
 cases e:H'.get j with
 | some q =>
  rw [i1 j q e] at hc;cases e':H'.get j' with
  | some q' =>
   rw [i1 j' q' e'] at hc';exact k2.inj j j' q q' b c c' e e' hc hc'
  | none =>
   rw [i2 j' e'] at hc';rw [g2 j' e'] at hj';have hlt:=hr.lt ⟨j',o',c',hj',hc'⟩;rcases k3.own b ⟨j,q,c,e,hc⟩with h1|h1
   ·exact absurd h1 (hno j' o' b c' hj' e' hc')
   omega
 | none =>
  rw [i2 j e] at hc;rw [g2 j e] at hj;cases e':H'.get j' with
  | some q' =>
   rw [i1 j' q' e'] at hc';have hlt:=hr.lt ⟨j,o,c,hj,hc⟩;rcases k3.own b ⟨j',q',c',e',hc'⟩with h1|h1
   ·exact absurd h1 (hno j o b c hj e hc)
   omega
  | none =>
   rw [i2 j' e'] at hc';rw [g2 j' e'] at hj';exact hr.inj j j' o o' b c c' hj hj' hc hc'
end Go.Abs
namespace Go.Proofs.YtmkgeogoojcciaaGreatDoor
open Go.Proofs.Tryz
open Go.Abs Go.Lib
def A5 (n:Nat):Nat:=if 1000≤n∧n < 1200 then n+2000 else if 3000≤n∧n < 3200 then n - 2000 else n
theorem KU (n:Nat):A5 (A5 n)=n:=by
 unfold A5
 repeat' split
 all_goals omega
def S1 (ga:Nat):Arm→AV
 | .never=>.pv .nilp
 | .off _ _ _=>.pv .nilp
 | .on _ _ _=>.ref 3003 ga 0 0
abbrev C3 (s:DSt):List AV:=[.osl 3001 0 0 (64*s.cells.length),.osl 3002 s.gq 0 s.q.length,bv s.off,S1 s.ga s.arm]
abbrev lE (s:DSt):aA:=[(3000,⟨0,4,80,[C3 s]⟩),(3001,⟨0,1,5,bA (flat s.cells)⟩),(3002,⟨s.gq,3,103,oX s.q⟩),(3003,⟨s.ga,3,100,iE s.arm⟩)]
abbrev xN (k a n:Nat) (b:Bool):Ob:=⟨0,6,72,[[.ref 3000 0 0 0,iv (k:Int),iv (a:Int),iv (n:Int),.mp 3101 0,bv b]]⟩
abbrev IR (s:DSt) (o m:Ob):aA:=[(3000,⟨0,4,80,[C3 s]⟩),(3001,⟨0,1,5,bA (flat s.cells)⟩),(3002,⟨s.gq,3,103,oX s.q⟩),(3003,⟨s.ga,3,100,iE s.arm⟩),(3100,o),(3101,m)]
theorem vW (ρ:Nat→Nat) {α:Type} (f:α→List PV) (l:List α):(l.map fun e=>(f e).map AV.pv).map (gO ρ)=l.map fun e=>(f e).map AV.pv:=by rw [List.map_map];refine List.map_congr_left fun e _=>?_;show gO ρ ((f e).map AV.pv)=_;rw [eZ,List.map_map];rfl
theorem sL (ρ:Nat→Nat) (l:List UInt8):(bA l).map (gO ρ)=bA l:=by rw [bA,List.map_map];exact List.map_congr_left fun e _=>rfl
theorem nR (s:DSt):gB A5 (aU s)=lE s:=by
 have e1:(iE s.arm).map (gO A5)=iE s.arm:=by cases s.arm<;>rfl
 have e2:gC A5 (KF s.ga s.arm)=S1 s.ga s.arm:=by cases s.arm<;>rfl
 simp only [aU,lE,gB,jB,List.map_cons,List.map_nil,sL,vW,e1,jC,C3,gO,e2];rfl
theorem qY (s:DSt) (k a n:Nat) (b:Bool) (l:bP) (c:Nat):gB A5 (sH s (bV k a n b) (bB l c))=IR s (xN k a n b) (bB l c):=by
 have e1:(iE s.arm).map (gO A5)=iE s.arm:=by cases s.arm<;>rfl
 have e2:gC A5 (KF s.ga s.arm)=S1 s.ga s.arm:=by cases s.arm<;>rfl
 have e3:=xR A5 l c;simp only [sH,IR,gB,List.map_cons,List.map_nil,e3];simp only [jB,List.map_cons,List.map_nil,sL,vW,e1,jC,C3,gO,e2];rfl
theorem lX (s:DSt) (H:aA) (h1:(H.get 3001).isSome=true) (h2:(H.get 3002).isSome=true) (h3:(H.get 3003).isSome=true):∀ r∈[C3 s],∀ a∈r,Clo H a:=by
 intro r hr a ha;rw [aAl.1 hr] at ha;simp only [C3,aAu,aAy,or_false] at ha;rcases ha with rfl|rfl|rfl|rfl
 ·exact .osl h1
 ·exact .osl h2
 ·exact .pv _
 cases s.arm<;>first|exact .pv _|exact .ref h3
theorem DP {H:aA} {k a n:Nat} {b:Bool} (h1:(H.get 3000).isSome=true) (h2:(H.get 3101).isSome=true):∀ r∈(xN k a n b).rows,∀ x∈r,Clo H x:=by
 intro r hr x hx;rw [aAl.1 hr] at hx;simp only [aAu,aAy,or_false] at hx;rcases hx with rfl|rfl|rfl|rfl|rfl|rfl
 ·exact .ref h1
 ·exact .pv _
 ·exact .pv _
 ·exact .pv _
 ·exact .mp h2
 exact .pv _
theorem rX (s:DSt):bF (lE s):=(bF.ofL ⟨(by exact lX _ _ rfl rfl rfl),(by exact aC _ _),(by exact aI _ _ _),(by exact aG _ _),trivial⟩)
theorem IQ (s:DSt) (k a n:Nat) (b:Bool) (l:bP) (c:Nat):bF (IR s (xN k a n b) (bB l c)):=(bF.ofL ⟨(by exact lX _ _ rfl rfl rfl),(by exact aC _ _),(by exact aI _ _ _),(by exact aG _ _),(by exact DP rfl rfl),(by exact aR _ _ _),trivial⟩)
theorem MD {f:FuncId} {args args':List AV} {H0 H3 H:aA} {R:AV→aA→Prop} (h:aH Tryz.prog f args H0 R) (ha:gO A5 args=args') (hH:gB A5 H0=H3) (hs:Sub H3 H) (hc:bF H3) (hac:∀ a∈args',Clo H3 a)
  (hk:∀ r K,R r K→∀ id,(aA.get (gB A5 K) id).isSome=true→(H3.get id).isSome=true∨H.get id=none):aH Tryz.prog f args' H (fun r H'=>∃ r0 K,R r0 K∧r=gC A5 r0∧H'=gB A5 K++H):=by
 refine(aH.frameQ (aH.renQ KU h ha hH) hs hc hac ?_).mono ?_
 ·rintro r K ⟨r0,K0,hR,rfl,rfl⟩ id hid;exact hk r0 K0 hR id hid
 rintro r H' ⟨K,⟨r0,K0,hR,rfl,rfl⟩,rfl⟩;exact⟨r0,K0,hR,rfl,rfl⟩
theorem YT {d:DSt} {id:Nat} (h:(aA.get (lE d) id).isSome=true):id=3000∨id=3001∨id=3002∨id=3003:=by
 simp only [lE,aA.get] at h;cases e0:Nat.beq 3000 id
 ·cases e1:Nat.beq 3001 id
  ·cases e2:Nat.beq 3002 id
   ·cases e3:Nat.beq 3003 id
    ·rw [e0,e1,e2,e3] at h;cases h
    exact .inr (.inr (.inr (Nat.eq_of_beq_eq_true e3).symm))
   exact .inr (.inr (.inl (Nat.eq_of_beq_eq_true e2).symm))
  exact .inr (.inl (Nat.eq_of_beq_eq_true e1).symm)
 exact .inl (Nat.eq_of_beq_eq_true e0).symm
theorem XE {d:DSt} {o m:Ob} {id:Nat} (h:(aA.get (IR d o m) id).isSome=true):id=3000∨id=3001∨id=3002∨id=3003∨id=3100∨id=3101:=by
 simp only [IR,aA.get] at h;cases e0:Nat.beq 3000 id
 ·cases e1:Nat.beq 3001 id
  ·cases e2:Nat.beq 3002 id
   ·cases e3:Nat.beq 3003 id
    ·cases e4:Nat.beq 3100 id
     ·cases e5:Nat.beq 3101 id
      ·rw [e0,e1,e2,e3,e4,e5] at h;cases h
      exact .inr (.inr (.inr (.inr (.inr (Nat.eq_of_beq_eq_true e5).symm))))
     exact .inr (.inr (.inr (.inr (.inl (Nat.eq_of_beq_eq_true e4).symm))))
    exact .inr (.inr (.inr (.inl (Nat.eq_of_beq_eq_true e3).symm)))
   exact .inr (.inr (.inl (Nat.eq_of_beq_eq_true e2).symm))
  exact .inr (.inl (Nat.eq_of_beq_eq_true e1).symm)
 exact .inl (Nat.eq_of_beq_eq_true e0).symm
theorem rV {M d:Nat} (hd0:0 < d) (hM:M < 10 ^ d):∀ (L:List ByteArray),(∀ s∈L,s.size≤M)→(aT L).length≤L.length*(M+d+1)
 | [],_=>aAz _
 | s::r,h=>by
  have ih:=rV hd0 hM r (fun x hx=>h x (List.mem_cons_of_mem _ hx));have hs:=h s List.mem_cons_self;have hd:=dS (k:=d) (u:=s.size) (by omega) hd0;rw [dU,aAj,aAk,aAj,dL,aAk,Nat.add_mul];omega
theorem CO {n:Nat} (h:n < 10):(dN (n:Int)).size≤1:=by have e:dN (n:Int)=ofL (decDigits n):=kJ (by rw [bC,lV]);rw [e,bU];exact dS (k:=1) (by omega) (by decide)
theorem nP {l:bP} {P:List ByteArray} (hl:∀ p∈l,p.1.size≤1∧p.2.1.size≤1) (hP:∀ s∈P,s.size≤1) (hn:2*l.length+2+P.length≤10):cZ (bE l P)≤1:=by
 have h1:(aT (cK l P)).length≤(cK l P).length*(1+1+1):=by
  refine rV (by decide) (by decide) _ fun s hs=>?_;rw [kO] at hs;rcases aAu.1 hs with rfl|hs
  ·exact CO (by omega)
  rcases List.mem_append.1 hs with hs|hs
  ·obtain ⟨x,hx,hs⟩:=List.mem_flatMap.1 hs;simp only [aAu,aAy,or_false] at hs;rcases hs with rfl|rfl
   ·obtain ⟨p,hp,rfl⟩:=List.mem_map.1 (lS.1 hx);exact(hl p hp).1
   exact sP x fun p hp=>(hl p hp).2
  rcases aAu.1 hs with rfl|hs
  ·exact CO (by omega)
  exact hP s hs
 rw [B2] at h1;have hd:=dS (k:=2) (u:=(aT (cK l P)).length) (by omega) (by decide);have h2:(bE l P).length≤46:=by
  rw [bE,dU,aAj,aAk,aAj,bC,bU];have h0:(aT []).length=0:=rfl;omega
 rw [cZ];omega
theorem P2 {l:bP} {P:List ByteArray} {x:ByteArray} (hx:x∈l.map Prod.fst):(dJ l x).size≤(bE l P).length:=by
 have h1:dJ l x∈cK l P:=by
  rw [kO];refine List.mem_cons_of_mem _ (List.mem_append_left _ (List.mem_flatMap.2 ⟨x,lS.2 hx,?_⟩));simp
 have h2:=oM h1;rw [bE,dU,aAj,aAk,aAj,bC];omega
theorem AO {k n:Nat} {l2:bP} {P:List ByteArray} (h1:bK l2 P=0) (h2:n+cZ (bE l2 (fP P))≤k):BX k n l2 P=0:=by
 rw [BX];rcases kH k n l2 P with⟨e1,_⟩|⟨e1,_⟩|⟨e1,_,_,e2⟩|⟨e1,e2⟩
 ·rw [e1];rfl
 ·rw [e1];rfl
 ·omega
 exact absurd h1 e2
theorem SG {k n:Nat} {l2:bP} {P:List ByteArray} (h1:bK l2 P=0) (h0:0 < l2.length) (h2:k < n+cZ (bE l2 (fP P))):BX k n l2 P=21:=by
 rw [BX];rcases kH k n l2 P with⟨e1,_,e2⟩|⟨e1,_,_,e2⟩|⟨e1,_⟩|⟨e1,e2⟩
 ·omega
 ·omega
 ·rw [e1];rfl
 exact absurd h1 e2
theorem OK {k n:Nat} {l2:bP} {P:List ByteArray} (h1:¬ bK l2 P=0):BX k n l2 P=bK l2 P:=by
 rw [BX];rcases kH k n l2 P with⟨_,e2,_⟩|⟨_,e2,_⟩|⟨_,e2,_⟩|⟨e1,e2⟩
 ·exact absurd e2 h1
 ·exact absurd e2 h1
 ·exact absurd e2 h1
 have:=eB l2 P;rw [e1,aAg (by omega)]
theorem mV:fP []=[]:=List.length_eq_zero_iff.1 (by have:=vD [];rw [List.length_nil] at this;omega)
theorem yG {a b:bP} (ha:fI a) (hb:fI b) (h:∀ k,cW a k=cW b k):cE a=cE b:=by rw [cE,cE,ED ha hb h,B3 ha hb h]
theorem rY (H:aA):aH Tryz.prog 18 [.pv .nilp] H (fun r H'=>r=.pv (aW [])∧H'=H):=by
 refine Pu ?_;have hk:=fun H=>NY H;refine Bd func18 rfl ntmps18<|Sr<|Dd aS<|Zz<|Sr<|Dd aF<|Dd (by exact aB rfl rfl aA1 rfl (hk _))<|Dd aS<|Zz<|Sr<|Dd aS<|Zz<|Sq<|Sr<|Dd aS<|Zz<|aO ?_;refine bL (σ:=Nat) (fun _=>([(3,.pv (aW [])),(4,.pv (aW [])),(5,iv 0)],[])) (fun _=>True) (fun _=>0) 0 trivial ?_ ?_
 ·exact Wk
 intro i hi;refine Sq<|Sr<|Dd aF<|Dd aF<|Dd (mZ aP)<|Dd dX<|Zz ?_;refine Cn ?_ ?_<;>intro hc1
 ·cases hc1
 exact bI<|Sr<|Dd aF<|Dd aS<|Zz<|aM<|Rt<|Qq
def TO (n:Nat):Nat:=if n=1100∨n=1101 then n+2000 else if n=3100∨n=3101 then n - 2000 else n
theorem KT (n:Nat):TO (TO n)=n:=by
 unfold TO
 repeat' split
 all_goals omega
abbrev F1 (k a n:Nat) (b:Bool):Ob:=⟨0,6,72,[[.ref 1000 0 0 0,iv (k:Int),iv (a:Int),iv (n:Int),.mp 3101 0,bv b]]⟩
abbrev UE (s:DSt) (o m:Ob):aA:=aU s++[(3100,o),(3101,m)]
theorem CB (s:DSt):gB TO (aU s)=aU s:=by
 have e1:(iE s.arm).map (gO TO)=iE s.arm:=by cases s.arm<;>rfl
 have e2:gC TO (KF s.ga s.arm)=KF s.ga s.arm:=by cases s.arm<;>rfl
 simp only [aU,gB,jB,List.map_cons,List.map_nil,sL,vW,e1,jC,gO,e2];rfl
theorem xS (s:DSt) (k a n:Nat) (b:Bool) (l:bP) (c:Nat):gB TO (sH s (bV k a n b) (bB l c))=UE s (F1 k a n b) (bB l c):=by have e3:=xR TO l c;have h:sH s (bV k a n b) (bB l c)=aU s++[(1100,bV k a n b),(1101,bB l c)]:=rfl;rw [h,gB,List.map_append];show gB TO (aU s)++_=_;rw [CB];simp only [List.map_cons,List.map_nil,e3];rfl
theorem YS {d:DSt} {o m:Ob} {id:Nat} (h:(aA.get (UE d o m) id).isSome=true):id=1000∨id=1001∨id=1002∨id=1003∨id=3100∨id=3101:=by
 simp only [UE,aU,List.cons_append,List.nil_append,aA.get] at h;cases e0:Nat.beq 1000 id
 ·cases e1:Nat.beq 1001 id
  ·cases e2:Nat.beq 1002 id
   ·cases e3:Nat.beq 1003 id
    ·cases e4:Nat.beq 3100 id
     ·cases e5:Nat.beq 3101 id
      ·rw [e0,e1,e2,e3,e4,e5] at h;cases h
      exact .inr (.inr (.inr (.inr (.inr (Nat.eq_of_beq_eq_true e5).symm))))
     exact .inr (.inr (.inr (.inr (.inl (Nat.eq_of_beq_eq_true e4).symm))))
    exact .inr (.inr (.inr (.inl (Nat.eq_of_beq_eq_true e3).symm)))
   exact .inr (.inr (.inl (Nat.eq_of_beq_eq_true e2).symm))
  exact .inr (.inl (Nat.eq_of_beq_eq_true e1).symm)
 exact .inl (Nat.eq_of_beq_eq_true e0).symm
theorem Y4 {ρ:Nat→Nat} (hρ:∀ n,ρ (ρ n)=n) {f:FuncId} {args args':List AV} {H0 H3 H:aA} {R:AV→aA→Prop} (h:aH Tryz.prog f args H0 R) (ha:gO ρ args=args') (hH:gB ρ H0=H3) (hs:Sub H3 H) (hc:bF H3) (hac:∀ a∈args',Clo H3 a)
  (hk:∀ r K,R r K→∀ id,(aA.get (gB ρ K) id).isSome=true→(H3.get id).isSome=true∨H.get id=none):aH Tryz.prog f args' H (fun r H'=>∃ r0 K,R r0 K∧r=gC ρ r0∧H'=gB ρ K++H):=by
 refine(aH.frameQ (aH.renQ hρ h ha hH) hs hc hac ?_).mono ?_
 ·rintro r K ⟨r0,K0,hR,rfl,rfl⟩ id hid;exact hk r0 K0 hR id hid
 rintro r H' ⟨K,⟨r0,K0,hR,rfl,rfl⟩,rfl⟩;exact⟨r0,K0,hR,rfl,rfl⟩
theorem zA {d:DSt} {N k:Nat} (hc:Calm d N) (hN:4≤N) (hN1:N≤8000) (hk:k=(N - 2) / 2) :
  aH Tryz.prog 12 [.ref 1000 0 0 0] (aU d) (fun r H'=>(jT d k=true∧r=.tup [.pv .nilp,iv 23]∧H'=aU d) ∨
   (jT d k=false∧r=.tup [.ref 1100 0 0 0,iv 0]∧∃ l c,dT l c∧fI l∧l.length≤184000∧(∀ x,cW l x=HZ d k (pI d k) (pH d k) x)∧H'=sH (mL (mL d 1 (pI d k) (pH d k) (rT d k)).2 0 (pI d k) (pH d k) (rT d k)).2 (bV k (pI d k) (pH d k) false) (bB l c))):=by
 have hn2:=hc.inv.ok.n2;have hcn:=hc.inv.n;have hb:=wA d k;refine(LG hc.on hN k (pI d k) (pH d k) (rT d k) hk rfl rfl rfl).mono ?_;obtain ⟨r1,r2⟩:=tY (hd:=rT d k) hc (place:=1) (a:=pI d k) (n:=pH d k) (by omega) (by omega) (by omega);obtain ⟨r3,r4⟩:=tY (hd:=rT d k) r2 (place:=0) (a:=pI d k) (n:=pH d k) (by omega) (by omega) (by omega);rintro r H' (⟨h,rfl,rfl⟩|⟨_,h,_⟩|⟨_,_,h,_⟩|⟨h1,_,_,rfl,l,c,q1,q2,q3,q4,rfl⟩)
 ·exact .inl ⟨h,rfl,rfl⟩
 ·exact absurd r1 h
 ·exact absurd r3 h
 exact .inr ⟨h1,rfl,l,c,q1,q2,by omega,q4,rfl⟩
theorem I9 {d:DSt} {N k:Nat} (hc:Calm d N) (hN:4≤N) (hN1:N≤8000) (hk:k=(N - 2) / 2) (hb:jT d k=false) (h1:mL d 1 (pI d k) (pH d k) (rT d k)=(0,d)) (h0:mL d 0 (pI d k) (pH d k) (rT d k)=(0,d)) (H:aA) (hs:Sub (aU d) H) (k4:H.get 3100=none) (k5:H.get 3101=none) :
  aH Tryz.prog 12 [.ref 1000 0 0 0] H (fun r H'=>r=.tup [.ref 3100 0 0 0,iv 0]∧∃ l c,dT l c∧fI l∧l.length≤184000∧(∀ x,cW l x=HZ d k (pI d k) (pH d k) x)∧H'=UE d (F1 k (pI d k) (pH d k) false) (bB l c)++H):=by
 refine(Y4 KT (zA hc hN hN1 hk) (args':=[.ref 1000 0 0 0]) rfl (CB d) hs (lL d) (by simp;rfl) ?_).mono ?_
 ·rintro r K (⟨h,_⟩|⟨_,rfl,l,c,q1,q2,q3,q4,rfl⟩) id hid
  ·rw [hb] at h;cases h
  rw [h1] at hid;simp only [h0] at hid;rw [xS] at hid;rcases YS hid with rfl|rfl|rfl|rfl|rfl|rfl
  ·exact .inl rfl
  ·exact .inl rfl
  ·exact .inl rfl
  ·exact .inl rfl
  ·exact .inr k4
  exact .inr k5
 rintro r H' ⟨r0,K,(⟨h,_⟩|⟨_,rfl,l,c,q1,q2,q3,q4,rfl⟩),rfl,rfl⟩
 ·rw [hb] at h;cases h
 refine⟨rfl,l,c,q1,q2,q3,q4,?_⟩;rw [h1];simp only [h0];rw [xS]
theorem A9 {d:DSt} {N k:Nat} (hc:Calm d N) (hN:4≤N) (hN1:N≤8000) (hk:k=(N - 2) / 2) (hb:jT d k=true) :
  aH Tryz.prog 12 [.ref 1000 0 0 0] (aU d) (fun r H'=>r=.tup [.pv .nilp,iv 23]∧H'=aU d):=by
 refine(zA hc hN hN1 hk).mono ?_;rintro r H' (⟨_,rfl,rfl⟩|⟨h,_⟩)
 ·exact⟨rfl,rfl⟩
 rw [hb] at h;cases h
theorem W2 {H:aA} {k a n:Nat} {b:Bool} (h1:(H.get 1000).isSome=true) (h2:(H.get 3101).isSome=true):∀ r∈(F1 k a n b).rows,∀ x∈r,Clo H x:=by
 intro r hr x hx;rw [aAl.1 hr] at hx;simp only [aAu,aAy,or_false] at hx;rcases hx with rfl|rfl|rfl|rfl|rfl|rfl
 ·exact .ref h1
 ·exact .pv _
 ·exact .pv _
 ·exact .pv _
 ·exact .mp h2
 exact .pv _
theorem IP (d:DSt) (k a n:Nat) (b:Bool) (l:bP) (c:Nat):bF (UE d (F1 k a n b) (bB l c)):=(bF.ofL ⟨(by exact aE _ _ rfl rfl rfl),(by exact aC _ _),(by exact aI _ _ _),(by exact aG _ _),(by exact W2 rfl rfl),(by exact aR _ _ _),trivial⟩)
theorem HH (d:DSt) (k a n:Nat) (b:Bool) (l:bP) (c:Nat) (hst:dT l c) (hnd:fI l) (hl:l.length < 1000000000) (H:aA) (hs:Sub (UE d (F1 k a n b) (bB l c)) H) :
  aH Tryz.prog 18 [.ref 3100 0 0 0] H (fun r H'=>r=.pv (aW (gX l))∧H'=H):=by
 have h:=aH.ren (ρ:=TO) KT (AM d k a n b l c hst hnd hl) (args':=[.ref 3100 0 0 0]) (r':=.pv (aW (gX l))) rfl (xS d k a n b l c) rfl (xS d k a n b l c);exact aH.frameS h hs (IP _ _ _ _ _ _ _) (by simp;rfl)
theorem iZ {s:DSt} {N:Nat} (h:DInv s N 0):Calm (mH s) N:=⟨NZ h,rfl,fun a w b h=>nY h⟩
theorem Few.mono {k a n:Nat} {l:bP} {c m m':Nat} (h:Few k a n l c m) (hm:m≤m'):Few k a n l c m':=⟨h.a2,h.nk,h.st,h.nd,Nat.le_trans h.len hm,h.sz⟩
theorem S9 (hhd:∀ H,aH Tryz.prog 10 [] H (fun r H'=>r=bv true∧H'=H)) (raw:Int) (l:List GOp) (hr:0≤raw∧raw≤255) (hl:l.length < 1000000000) (hs:∀ x∈l,YM x) (ha:∀ x∈l,x.a≤9223372036854775807) :
  aH Tryz.prog 9 [.pv (.int .u8 raw),.pv (lH l)] [] (fun r H'=>r=bv true∧H'=[]):=by
 have hml:(l.map uZ).length=l.length:=aAi _;have hfw:=fun H=>YV l H (by omega) (fun x hx=>by have:=hs x hx;exact⟨by have:=this.1;omega,by have:=this.2.1;omega,this.2.2⟩);obtain ⟨N,hN⟩:∃ N,N=4+(raw % 100).toNat:=⟨_,rfl⟩;have hN4:4≤N:=by omega
 have hN1:N≤103:=by omega
 have hrem:raw.tmod 100=((N - 4:Nat):Int):=by
  rw [Int.tmod_eq_emod_of_nonneg hr.1];omega
 refine Bd func9 rfl ntmps9<|Sr<|Dd aS<|Zz<|Sr<|Dd (by exact aB rfl rfl call10 rfl (hhd _))<|Dd aS<|Zz<|Sq<|Sr<|Dd aF<|Dd (by exact aB rfl rfl call11 rfl (hfw _))<|Dd A2<|Zz ?_;refine Cn ?_ ?_<;>intro hc1
 ·exact Sr<|Dd aF<|Dd aS<|Zz<|aM<|Rt<|Qq
 have hq:xE l=true:=by have h:=hc1;simpa using h
 obtain ⟨hl12,hfx⟩:=N5 hq;obtain ⟨k,hk⟩:∃ k,k=(N - 2) / 2:=⟨_,rfl⟩;have hop:=rA (qO (n:=N) (by omega) (by omega)) (tV hN4) hN4 rfl;rw [← hk] at hop;refine aK<|Sr<|Dd aF<|Dd (by exact eD rfl bQ bT rfl (iU (by omega) (by omega)))<|Dd (by exact xV rfl rfl rfl (by decide) hrem)<|Dd (by exact cH rfl rfl rfl (show IntKind.i64.wrap (4+((N - 4:Nat):Int))=(N:Int)by rw [iU (by omega) (by omega)];omega))<|Dd (by exact aB rfl rfl aA3 rfl (Q5 N (by omega) (by omega)))<|Dd aS<|Zz<|Sr<|Dm ?_;refine gJ rfl rfl (aB rfl rfl pP rfl hop) ?_;rintro _ _ ⟨rfl,lm,cm,q1,q2,q3,q4,rfl⟩;have hF0:Few k 0 0 lm cm (6*0):=⟨by decide,aAz _,q1,q2,by omega,fun x v h=>by rw [q4] at h;cases h⟩;have hC0:=qO (n:=N) (by omega) (by omega);refine Dd aF<|Dd dY<|Dd dY<|Dd aS<|Dd aS<|Zz<|Sq<|Sr<|Dd aF<|Dd wB<|Zz ?_;refine Cn ?_ ?_<;>intro hc2
 ·cases hc2
 obtain ⟨d0,hd0⟩:∃ d,d=nC N:=⟨_,rfl⟩;rw [← hd0] at hC0 ⊢;clear hd0;refine aK<|Sq<|Sr<|Dd aS<|Zz<|aO ?_;refine OZ (fun(j:Nat) (d:DSt) (a n:Nat) (lm:bP) (cm:Nat)=>([(1,.pv (lH l)),(5,bv true),(6,.ref 1000 0 0 0),(7,.ref 1100 0 0 0),(9,iv (j:Int))],sH d (bV k a n false) (bB lm cm))) (fun j d a n lm cm=>j≤l.length∧Calm d N∧Few k a n lm cm (6*j)) (fun j d a n lm cm=>l.length - j) 0 d0 0 0 lm cm ⟨aAz _,hC0,hF0⟩ ?_ ?_
 ·exact(cA.wk (Eb<|Eb<|Ea<|Ea<|Eb<|trivial) (Hc (aE _ _ rfl rfl rfl)<|Hc (aC _ _)<|Hc (aI _ _ _)<|Hc (aG _ _)<|Hc (by(simp;exact⟨rfl,rfl⟩))<|Hc (aR _ _ _)<|trivial) trivial)
 clear hC0 hF0 q1 q2 q3 q4 lm cm;rintro j d a n lm cm ⟨hj,hC,hF⟩;refine Sq<|Sr<|Dd aF<|Dd aF<|Dd (mZ nI)<|Dd dX<|Zz ?_;refine Cn ?_ ?_<;>intro hc3
 ·have hlt:j < l.length:=by have:=aAe hc3;omega
  obtain ⟨x,hx⟩:=aZ hlt;have hxm:=aAs hx;have hix:=dW (f:=uZ) hx;obtain ⟨f1,f2,f3,f4⟩:=hfx x hxm;have hmk:=gS x.put;have hmkl:(eG x.put).1.length≤6:=Nat.le_trans (CE x.put ([],0)) (by show 0+x.put.length≤6;omega);have hmz:∀ p∈(eG x.put).1,p.1.size≤600∧p.2.1.size≤600:=fun p hp=>by have:=f3 _ (qB hp);simp only at this;omega
  have hcm:=J7 hC hF (by omega) (by omega) (eG x.put).1 (eG x.put).2 x.drop hmk.1 hmk.2 hmkl f2 hmz;have hsc:=M5 hC hF (by omega) (by omega) (by omega);have harm:=iH (o:=bV k a n false) (m:=bB lm cm) (Y9 d x.a x.b x.c) (by simp;rfl);have hfl:=iH (o:=bV k a n false) (m:=bB lm cm) (J2 d x.a x.b hC.inv.ok) (by simp;rfl);have hrot:=iH (o:=bV k a n false) (m:=bB lm cm) (YJ d x.a x.b x.c hC.inv.ok) (by simp;rfl);refine aK<|Sq<|aO<|Sr<|Dd aF<|Dd aF<|Dd (FF FX)<|Dd (by exact BF rfl isAgg37 ZB rfl hix (by simp only [Zl,encStr,vA,uZ];rfl) rfl)<|Dd (by exact cC (id:=10) rfl ZU rfl rfl)<|Uu (pS ZB)<|Zz<|Sq<|Sr<|Dd (dO XH)<|Dd (eA aQ)<|Zz<|aO<|Sr<|Dd hU<|Da ?_;refine Cn ?_ ?_<;>intro hc4
  ·refine Rg<|Dm ?_;refine gK (E':=[(1,.pv (lH l)),(5,bv true),(6,.ref 1000 0 0 0),(7,.ref 1100 0 0 0),(9,iv (j:Int)),(54,.ref 1100 0 0 0)]) (H':=sH d (bV k a n false) (bB lm cm)) (cA.wk (Eb<|Eb<|Ea<|Ea<|Eb<|Ea<|trivial) (Hc (aE _ _ rfl rfl rfl)<|Hc (aC _ _)<|Hc (aI _ _ _)<|Hc (aG _ _)<|Hc (by(simp;exact⟨rfl,rfl⟩))<|Hc (aR _ _ _)<|trivial) trivial) ?_;refine gJ rfl rfl (aB rfl rfl aA0 rfl hsc) ?_;rintro _ _ ⟨e,d2,a2,n2,rfl,hC2,hF2,rfl⟩;have hst2:=iH (o:=bV k a2 n2 false) (m:=bB lm cm) (qV d2) (by simp;rfl);refine Zz<|Rg<|Dd aF<|Dd (by exact aB rfl rfl vO rfl (hst2))<|Zz<|Rg<|Dd aF<|Dd (by exact cH rfl rfl rfl (show IntKind.i64.wrap ((j:Int)+1)=((j+1:Nat):Int)by rw [iU (by omega) (by omega)];omega))<|Da ?_;exact⟨j+1,mH (d2),a2,n2,lm,cm,⟨by omega,iZ (hC2.inv),hF2.mono (by omega)⟩,by omega,(cA.wk (Eb<|Eb<|Ea<|Ea<|Eb<|trivial) (Hc (aE _ _ rfl rfl rfl)<|Hc (aC _ _)<|Hc (aI _ _ _)<|Hc (aG _ _)<|Hc (by(simp;exact⟨rfl,rfl⟩))<|Hc (aR _ _ _)<|trivial) trivial)⟩
  refine Sr<|Dd hU<|Da ?_;refine Cn ?_ ?_<;>intro hc5
  ·refine Rg<|Dd aF<|Dd (dO J0)<|Dd (eA aQ)<|Dd (dO JZ)<|Dd (eA aQ)<|Dd (dO RV)<|Dd (eA aQ) ?_;refine gK (E':=[(1,.pv (lH l)),(5,bv true),(6,.ref 1000 0 0 0),(7,.ref 1100 0 0 0),(9,iv (j:Int)),(58,.ref 1000 0 0 0),(60,iv x.a),(62,iv x.b),(64,iv x.c)]) (H':=sH d (bV k a n false) (bB lm cm)) (cA.wk (Eb<|Eb<|Ea<|Ea<|Eb<|Ea<|Eb<|Eb<|Eb<|trivial) (Hc (aE _ _ rfl rfl rfl)<|Hc (aC _ _)<|Hc (aI _ _ _)<|Hc (aG _ _)<|Hc (by(simp;exact⟨rfl,rfl⟩))<|Hc (aR _ _ _)<|trivial) trivial) ?_;refine gJ rfl rfl (aB rfl rfl call28 rfl harm) ?_;rintro _ _ ⟨rfl,rfl⟩;have hst2:=iH (o:=bV k a n false) (m:=bB lm cm) (qV (HB d x.a x.b x.c)) (by simp;rfl);refine Zz<|Rg<|Dd aF<|Dd (by exact aB rfl rfl vO rfl (hst2))<|Zz<|Rg<|Dd aF<|Dd (by exact cH rfl rfl rfl (show IntKind.i64.wrap ((j:Int)+1)=((j+1:Nat):Int)by rw [iU (by omega) (by omega)];omega))<|Da ?_;exact⟨j+1,mH ((HB d x.a x.b x.c)),a,n,lm,cm,⟨by omega,iZ (U9 hC.inv _ _ _ (ha x hxm)),hF.mono (by omega)⟩,by omega,(cA.wk (Eb<|Eb<|Ea<|Ea<|Eb<|trivial) (Hc (aE _ _ rfl rfl rfl)<|Hc (aC _ _)<|Hc (aI _ _ _)<|Hc (aG _ _)<|Hc (by(simp;exact⟨rfl,rfl⟩))<|Hc (aR _ _ _)<|trivial) trivial)⟩
  refine Sr<|Dd hU<|Da ?_;refine Cn ?_ ?_<;>intro hc6
  ·refine Rg<|Dd aF<|Dd (dO J0)<|Dd (eA aQ)<|Dd (dO JZ)<|Dd (eA aQ) ?_;refine gK (E':=[(1,.pv (lH l)),(5,bv true),(6,.ref 1000 0 0 0),(7,.ref 1100 0 0 0),(9,iv (j:Int)),(68,.ref 1000 0 0 0),(70,iv x.a),(72,iv x.b)]) (H':=sH d (bV k a n false) (bB lm cm)) (cA.wk (Eb<|Eb<|Ea<|Ea<|Eb<|Ea<|Eb<|Eb<|trivial) (Hc (aE _ _ rfl rfl rfl)<|Hc (aC _ _)<|Hc (aI _ _ _)<|Hc (aG _ _)<|Hc (by(simp;exact⟨rfl,rfl⟩))<|Hc (aR _ _ _)<|trivial) trivial) ?_;refine gJ rfl rfl (aB rfl rfl aAX rfl hfl) ?_;rintro _ _ ⟨rfl,rfl⟩;have hst2:=iH (o:=bV k a n false) (m:=bB lm cm) (qV (iY d x.a x.b)) (by simp;rfl);refine Zz<|Rg<|Dd aF<|Dd (by exact aB rfl rfl vO rfl (hst2))<|Zz<|Rg<|Dd aF<|Dd (by exact cH rfl rfl rfl (show IntKind.i64.wrap ((j:Int)+1)=((j+1:Nat):Int)by rw [iU (by omega) (by omega)];omega))<|Da ?_;exact⟨j+1,mH ((iY d x.a x.b)),a,n,lm,cm,⟨by omega,iZ (nV hC.inv _ _),hF.mono (by omega)⟩,by omega,(cA.wk (Eb<|Eb<|Ea<|Ea<|Eb<|trivial) (Hc (aE _ _ rfl rfl rfl)<|Hc (aC _ _)<|Hc (aI _ _ _)<|Hc (aG _ _)<|Hc (by(simp;exact⟨rfl,rfl⟩))<|Hc (aR _ _ _)<|trivial) trivial)⟩
  refine Sr<|Dd hU<|Da ?_;refine Cn ?_ ?_<;>intro hc7
  ·refine Rg<|Dd aF<|Dd (dO J0)<|Dd (eA aQ)<|Dd (dO JZ)<|Dd (eA aQ)<|Dd (dO RV)<|Dd (eA aQ) ?_;refine gK (E':=[(1,.pv (lH l)),(5,bv true),(6,.ref 1000 0 0 0),(7,.ref 1100 0 0 0),(9,iv (j:Int)),(76,.ref 1000 0 0 0),(78,iv x.a),(80,iv x.b),(82,iv x.c)]) (H':=sH d (bV k a n false) (bB lm cm)) (cA.wk (Eb<|Eb<|Ea<|Ea<|Eb<|Ea<|Eb<|Eb<|Eb<|trivial) (Hc (aE _ _ rfl rfl rfl)<|Hc (aC _ _)<|Hc (aI _ _ _)<|Hc (aG _ _)<|Hc (by(simp;exact⟨rfl,rfl⟩))<|Hc (aR _ _ _)<|trivial) trivial) ?_;refine gJ rfl rfl (aB rfl rfl call27 rfl hrot) ?_;rintro _ _ ⟨rfl,rfl⟩;have hst2:=iH (o:=bV k a n false) (m:=bB lm cm) (qV (EX d x.a x.b x.c)) (by simp;rfl);refine Zz<|Rg<|Dd aF<|Dd (by exact aB rfl rfl vO rfl (hst2))<|Zz<|Rg<|Dd aF<|Dd (by exact cH rfl rfl rfl (show IntKind.i64.wrap ((j:Int)+1)=((j+1:Nat):Int)by rw [iU (by omega) (by omega)];omega))<|Da ?_;exact⟨j+1,mH ((EX d x.a x.b x.c)),a,n,lm,cm,⟨by omega,iZ (U7 hC.inv _ _ _),hF.mono (by omega)⟩,by omega,(cA.wk (Eb<|Eb<|Ea<|Ea<|Eb<|trivial) (Hc (aE _ _ rfl rfl rfl)<|Hc (aC _ _)<|Hc (aI _ _ _)<|Hc (aG _ _)<|Hc (by(simp;exact⟨rfl,rfl⟩))<|Hc (aR _ _ _)<|trivial) trivial)⟩
  refine KC 6 follows (aAv rfl) ?_;refine Cr [1100] (fun _ _=>aF)<|Cr [10] (fun _ h=>fh AC h)<|Cr [10] (fun _ h=>lh AU h)<|Cp [950] (fun H1 hH=>by exact aB rfl rfl call15 rfl (Q7 x.put _ ((hH 950 rfl).trans rfl) (by omega)))<|Cr [10] (fun _ h=>fh ER h)<|Cr [10] (fun _ h=>lh cQ h)<|dC<|Kr ?_;refine gK (E':=[(1,.pv (lH l)),(5,bv true),(6,.ref 1000 0 0 0),(7,.ref 1100 0 0 0),(9,iv (j:Int)),(45,.ref 1100 0 0 0),(48,.mp 950 0),(50,.pv (aW x.drop))]) (H':=(950,bB (eG x.put).1 (eG x.put).2)::sH d (bV k a n false) (bB lm cm)) (cA.wk (Eb<|Eb<|Ea<|Ea<|Eb<|Ea<|Ea<|Eb<|trivial) (Hc (aR _ _ _)<|Hc (aE _ _ rfl rfl rfl)<|Hc (aC _ _)<|Hc (aI _ _ _)<|Hc (aG _ _)<|Hc (by(simp;exact⟨rfl,rfl⟩))<|Hc (aR _ _ _)<|trivial) trivial) ?_;refine gJ rfl rfl (aB rfl rfl vQ rfl hcm) ?_;rintro _ _ ⟨e,d2,n2,l2,c2,rfl,hC2,hF2,rfl⟩;refine gK (E':=[(1,.pv (lH l)),(5,bv true),(6,.ref 1000 0 0 0),(7,.ref 1100 0 0 0),(9,iv (j:Int)),(51,iv e)]) (H':=sH d2 (bV k a n2 false) (bB l2 c2)) (cA.wk (Eb<|Eb<|Ea<|Ea<|Eb<|Eb<|trivial) (Hc (aE _ _ rfl rfl rfl)<|Hc (aC _ _)<|Hc (aI _ _ _)<|Hc (aG _ _)<|Hc (by(simp;exact⟨rfl,rfl⟩))<|Hc (aR _ _ _)<|trivial) trivial) ?_;have hst2:=iH (o:=bV k a n2 false) (m:=bB l2 c2) (qV d2) (by simp;rfl);refine Zz<|Rg<|Dd aF<|Dd (by exact aB rfl rfl vO rfl (hst2))<|Zz<|Rg<|Dd aF<|Dd (by exact cH rfl rfl rfl (show IntKind.i64.wrap ((j:Int)+1)=((j+1:Nat):Int)by rw [iU (by omega) (by omega)];omega))<|Da ?_;exact⟨j+1,mH (d2),a,n2,l2,c2,⟨by omega,iZ (hC2.inv),hF2.mono (by omega)⟩,by omega,(cA.wk (Eb<|Eb<|Ea<|Ea<|Eb<|trivial) (Hc (aE _ _ rfl rfl rfl)<|Hc (aC _ _)<|Hc (aI _ _ _)<|Hc (aG _ _)<|Hc (by(simp;exact⟨rfl,rfl⟩))<|Hc (aR _ _ _)<|trivial) trivial)⟩
 have hfl0:=iH (o:=bV k a n false) (m:=bB lm cm) (J2 d 0 0 hC.inv.ok) (by simp;rfl);have hst0:=iH (o:=bV k a n false) (m:=bB lm cm) (qV (iY d 0 0)) (by simp;rfl);have hC1:=iZ (nV hC.inv 0 0);obtain ⟨d1,hd1⟩:∃ d1,d1=mH (iY d 0 0):=⟨_,rfl⟩;rw [← hd1] at hst0 hC1;clear hd1;have n23:∀ z:Int,AV.pv (.bool (decide (z=z)))=bv true:=fun z=>by rw [decide_eq_true rfl]
 have nss:AV.pv (.bool (decide (lN d1=lN d1)))=bv true:=by rw [decide_eq_true rfl]
 refine bI<|Sr<|Dd aF<|Dd (by exact aB rfl rfl aAX rfl (hfl0))<|Zz<|Sr<|Dd aF<|Dd (by exact aB rfl rfl vO rfl (hst0))<|Zz<|Sr<|Dm ?_;refine gK (E':=[(5,bv true),(6,.ref 1000 0 0 0),(91,.ref 1000 0 0 0)]) (H':=aU d1) (cA.wk (Eb<|Ea<|Ea<|trivial) (Hc (aE _ _ rfl rfl rfl)<|Hc (aC _ _)<|Hc (aI _ _ _)<|Hc (aG _ _)<|trivial) trivial) ?_;refine gJ rfl rfl (aB rfl rfl pP rfl (zA hC1 hN4 (by omega) hk)) ?_;rintro _ _ (⟨hb,rfl,rfl⟩|⟨hb,rfl,l6,c6,q1,q2,q3,q4,rfl⟩)
 ·have hop2:=A9 hC1 hN4 (by omega) hk hb;have hraw:=F5 d1 hC1.inv.ok;have hsm:=fun H=>yT [] [] H (by decide) (by decide);rw [decide_eq_true rfl] at hsm;refine Dd aF<|Dd dY<|Dd dY<|Dd aS<|Dd aS<|Zz<|Sr<|Dd aF<|Dd (by exact aB rfl rfl vP rfl (hraw))<|Dd aS<|Zz<|Sr<|Dm ?_;refine gJ rfl rfl (aB rfl rfl pP rfl hop2) ?_;rintro _ _ ⟨rfl,rfl⟩;exact Dd aF<|Dd dY<|Dd dY<|Dd aS<|Dd aS<|Zz<|Sr<|Dd aF<|Dd aF<|On aF<|On aF<|On (by exact bW.eqv (xX rfl rfl rfl) (n23 _))<|Dd fV<|Dd aF<|On aF<|On (by exact iW rfl cP rfl rfl)<|On aF<|On (by exact iW rfl cP rfl rfl)<|On (by exact GH rfl kZ rfl rfl)<|Dd fV<|Dd aF<|On aF<|On (by exact aB rfl rfl TW rfl (rY _))<|On aF<|On (by exact aB rfl rfl TW rfl (rY _))<|On (by exact aB rfl rfl aA2 rfl (hsm _))<|Dd fV<|Dd aF<|On aF<|On aF<|On (by exact aB rfl rfl vP rfl (hraw))<|On (by exact bW.eqv (pW rfl rfl rfl) nss)<|Dd fV<|Dd aS<|Zz<|aM<|Rt<|Qq
 obtain ⟨d2,hd2,hC2,hb2,e1,e2,e3,e4,e5,e6⟩:=HT hC1 hN4 hk hb;rw [← hd2];have nss:AV.pv (.bool (decide (lN d2=lN d2)))=bv true:=by rw [decide_eq_true rfl]
 obtain ⟨a1,ha1⟩:∃ a,a=pI d1 k:=⟨_,rfl⟩;obtain ⟨n1,hn1⟩:∃ a,a=pH d1 k:=⟨_,rfl⟩;rw [← ha1,← hn1];have hraw:=iH (o:=bV k a1 n1 false) (m:=bB l6 c6) (F5 d2 hC2.inv.ok) (by simp;rfl);refine Dd aF<|Dd dY<|Dd dY<|Dd aS<|Dd aS<|Zz<|Sr<|Dd aF<|Dd (by exact aB rfl rfl vP rfl (hraw))<|Dd aS<|Zz<|Sr<|Dm ?_;refine gJ rfl rfl (aB rfl rfl pP rfl (I9 hC2 hN4 (by omega) hk hb2 e5 e6 _ (DJ.sub ⟨rfl,rfl,rfl,rfl,trivial⟩) rfl rfl)) ?_;rintro _ _ ⟨rfl,l7,c7,p1,p2,p3,p4,rfl⟩;have hsame:gX l6=gX l7:=JQ q2 p2 fun y=>by rw [q4,p4,e4]
 have h117:=iL (AM d2 k a1 n1 false l6 c6 q1 q2 (by omega)) (UE d2 (F1 k (pI d2 k) (pH d2 k) false) (bB l7 c7)++sH d2 (bV k a1 n1 false) (bB l6 c6)) ⟨rfl,rfl,rfl,rfl,rfl,rfl,trivial⟩ (by simp;rfl);have h119:=HH d2 k (pI d2 k) (pH d2 k) false l7 c7 p1 p2 (by omega) (UE d2 (F1 k (pI d2 k) (pH d2 k) false) (bB l7 c7)++sH d2 (bV k a1 n1 false) (bB l6 c6)) (fun j o h=>by rw [eK,h]);have h125:=aH.frameS (H:=UE d2 (F1 k (pI d2 k) (pH d2 k) false) (bB l7 c7)++sH d2 (bV k a1 n1 false) (bB l6 c6)) (F5 d2 hC2.inv.ok) (DJ.sub ⟨rfl,rfl,rfl,rfl,trivial⟩) (lL d2) (by simp;rfl);have hsm:=fun H=>yT (gX l6) (gX l7) H (by rw [zN];omega) (by rw [zN];omega);rw [hsame,decide_eq_true rfl] at hsm;rw [hsame] at h117;exact Dd aF<|Dd dY<|Dd dY<|Dd aS<|Dd aS<|Zz<|Sr<|Dd aF<|Dd aF<|On aF<|On aF<|On (by exact bW.eqv (xX rfl rfl rfl) (n23 _))<|Dd fV<|Dd aF<|On aF<|On (by exact cG rfl cP rfl rfl rfl rfl)<|On aF<|On (by exact cG rfl cP rfl rfl rfl rfl)<|On (by exact GH rfl kZ rfl rfl)<|Dd fV<|Dd aF<|On aF<|On (by exact aB rfl rfl TW rfl (h117))<|On aF<|On (by exact aB rfl rfl TW rfl (h119))<|On (by exact aB rfl rfl aA2 rfl (hsm _))<|Dd fV<|Dd aF<|On aF<|On aF<|On (by exact aB rfl rfl vP rfl (h125))<|On (by exact bW.eqv (pW rfl rfl rfl) nss)<|Dd fV<|Dd aS<|Zz<|aM<|Rt<|Qq
theorem qU (A B:aA):Sub A (A++B):=fun j o h=>by rw [eK,h]
theorem Z0 (n:Nat) (h1:1≤n) (h2:n≤8000) (H:aA) (k0:H.get 3000=none) (k1:H.get 3001=none) (k2:H.get 3002=none) (k3:H.get 3003=none):aH Tryz.prog 13 [iv (n:Int)] H (fun r H'=>r=.ref 3000 0 0 0∧H'=lE (nC n)++H):=by
 refine(MD (Q5 n h1 h2) (args':=[iv (n:Int)]) rfl (rfl:gB A5 []=[]) (fun _ _ h=>by cases h) (fun _ _ h=>by cases h) (by intro a ha;rw [aAl] at ha;subst ha;exact .pv _) ?_).mono ?_
 ·rintro r K ⟨rfl,rfl⟩ id hid;rw [nR] at hid;rcases YT hid with rfl|rfl|rfl|rfl
  ·exact .inr k0
  ·exact .inr k1
  ·exact .inr k2
  exact .inr k3
 rintro r H' ⟨r0,K,⟨rfl,rfl⟩,rfl,rfl⟩;exact⟨rfl,by rw [nR]⟩
theorem YL {d:DSt} {N k a n:Nat} {C:CT} (hc:Calm d N) (hI:SInv d.cells k a n C) (hN:4≤N) (hk:k=(N - 2) / 2) (H:aA) (hs:Sub (lE d) H) (k4:H.get 3100=none) (k5:H.get 3101=none) :
  aH Tryz.prog 12 [.ref 3000 0 0 0] H (fun r H'=>r=.tup [.ref 3100 0 0 0,iv 0]∧∃ l c,dT l c∧fI l∧l.length≤46*n∧(∀ x,cW l x=C x)∧H'=IR d (xN k a n false) (bB l c)++H):=by
 refine(MD (rA hc hI hN hk) (args':=[.ref 3000 0 0 0]) rfl (nR d) hs (rX d) (by simp;rfl) ?_).mono ?_
 ·rintro r K ⟨rfl,l,c,q1,q2,q3,q4,rfl⟩ id hid;rw [qY] at hid;rcases XE hid with rfl|rfl|rfl|rfl|rfl|rfl
  ·exact .inl rfl
  ·exact .inl rfl
  ·exact .inl rfl
  ·exact .inl rfl
  ·exact .inr k4
  exact .inr k5
 rintro r H' ⟨r0,K,⟨rfl,l,c,q1,q2,q3,q4,rfl⟩,rfl,rfl⟩;exact⟨rfl,l,c,q1,q2,q3,q4,by rw [qY]⟩
theorem IV (d:DSt) (k a n:Nat) (b:Bool) (l l2:bP) (c c2:Nat):gB A5 ((950,bB l2 c2)::sH d (bV k a n b) (bB l c))=(950,bB l2 c2)::IR d (xN k a n b) (bB l c):=by have h:=qY d k a n b l c;show (A5 950,jB A5 (bB l2 c2))::gB A5 (sH d (bV k a n b) (bB l c))=_;rw [h,xR];rfl
theorem OQ (d:DSt) (k a n:Nat) (b:Bool) (l l2:bP) (c c2:Nat):bF ((950,bB l2 c2)::IR d (xN k a n b) (bB l c)):=(bF.ofL ⟨(by exact aR _ _ _),(by exact lX _ _ rfl rfl rfl),(by exact aC _ _),(by exact aI _ _ _),(by exact aG _ _),(by exact DP rfl rfl),(by exact aR _ _ _),trivial⟩)
theorem Z1 {d:DSt} {o m o2:Ob} {id:Nat} (h:(aA.get ((950,o2)::IR d o m) id).isSome=true):id=950∨id=3000∨id=3001∨id=3002∨id=3003∨id=3100∨id=3101:=by
 by_cases e:id=950
 ·exact .inl e
 rw [get_cons_other _ _ e] at h;exact .inr (XE h)
theorem VO {N k:Nat} {tl:List ByteArray} {d:DSt} {a n:Nat} {l:bP} {c:Nat} {C:CT} (h:St N k tl d a n l c C) (hk:k < 4000) (l2:bP) (c2:Nat) (P:List ByteArray) (hst2:dT l2 c2) (hnd2:fI l2) (hl2:l2.length≤1000) (hP:P.length≤1000) (H:aA) (hs:Sub ((950,bB l2 c2)::IR d (xN k a n false) (bB l c)) H) :
  aH Tryz.prog 14 [.ref 3100 0 0 0,.mp 950 0,.pv (aW P)] H (fun r H'=>r=iv (BX k n l2 P)∧∃ d' n' l' c',St N k tl d' a n' l' c' (if BX k n l2 P=0 then rN C l2 (fP P)else C)∧n'=(if yE k n false l2 P = -1 then n+cZ (bE l2 (fP P))else n)∧H'=(950,bB l2 c2)::IR d' (xN k a n' false) (bB l' c')++H):=by
 refine(MD (mU h hk l2 c2 P hst2 hnd2 hl2 hP) (args':=[.ref 3100 0 0 0,.mp 950 0,.pv (aW P)]) rfl (IV d k a n false l l2 c c2) hs (OQ _ _ _ _ _ _ _ _ _) (by simp;exact⟨rfl,rfl⟩) ?_).mono ?_
 ·rintro r K ⟨rfl,d',n',l',c',q1,q2,rfl⟩ id hid;rw [IV] at hid;rcases Z1 hid with rfl|rfl|rfl|rfl|rfl|rfl|rfl<;>exact .inl rfl
 rintro r H' ⟨r0,K,⟨rfl,d',n',l',c',q1,q2,rfl⟩,rfl,rfl⟩;exact⟨rfl,d',n',l',c',q1,q2,by rw [IV]⟩
theorem W1 {N k:Nat} {tl:List ByteArray} {d:DSt} {a n:Nat} {l:bP} {c:Nat} {C:CT} (h:St N k tl d a n l c C) (hk:k < 4000) (H:aA) (hs:Sub (IR d (xN k a n false) (bB l c)) H) :
  aH Tryz.prog 21 [.ref 3100 0 0 0] H (fun r H'=>r=iv (WA k l)∧∃ d' a' n',St N k tl d' a' n' l c C∧(WA k l=0→d'.cells=kI k (cE l) tl)∧H'=IR d' (xN k a' n' false) (bB l c)++H):=by
 refine(MD (yS h hk) (args':=[.ref 3100 0 0 0]) rfl (qY d k a n false l c) hs (IQ _ _ _ _ _ _ _) (by simp;rfl) ?_).mono ?_
 ·rintro r K ⟨rfl,d',a',n',q1,q2,rfl⟩ id hid;rw [qY] at hid;rcases XE hid with rfl|rfl|rfl|rfl|rfl|rfl<;>exact .inl rfl
 rintro r H' ⟨r0,K,⟨rfl,d',a',n',q1,q2,rfl⟩,rfl,rfl⟩;exact⟨rfl,d',a',n',q1,q2,by rw [qY]⟩
theorem ZZ (d:DSt) (hd:DOk d) (H:aA) (hs:Sub (lE d) H):aH Tryz.prog 22 [.ref 3000 0 0 0] H (fun r H'=>r=sv (lN d)∧H'=H):=by have h:=aH.ren (ρ:=A5) KU (F5 d hd) (args':=[.ref 3000 0 0 0]) (r':=sv (lN d)) rfl (nR d) rfl (nR d);exact aH.frameS h hs (rX d) (by simp;rfl)
abbrev tA:ByteArray:=⟨#[97]⟩
abbrev tB:ByteArray:=⟨#[98]⟩
abbrev tC:ByteArray:=⟨#[99]⟩
abbrev t1:ByteArray:=⟨#[49]⟩
abbrev t2:ByteArray:=⟨#[50]⟩
abbrev kB:bP×Nat:=eG [(tB,t2)]
abbrev PG:bP×Nat:=eG [(tA,t1),(tB,t2)]
theorem U5 (x:ByteArray):cW kB.1 x=if tB=x then some t2 else none:=by rw [JN];rfl
theorem YU (x:ByteArray):cW PG.1 x=if tB=x then some t2 else if tA=x then some t1 else none:=by
 rw [JN];show ((if tB=x then some t2 else none).orElse fun _=>if tA=x then some t1 else none)=_
 split<;>rfl
theorem Y5 (x:ByteArray):rN (rN (fun _=>none) PG.1 (fP [])) [] (fP [tA]) x=cW kB.1 x:=by
 have hAB:¬ tB=tA:=by decide
 rw [rN,rN,mV,aAg aAy,U5,YU];by_cases h:x∈fP [tA]
 ·rw [aAh h];have:=rG.1 h;rw [aAl] at this;subst this;rw [aAg hAB]
 rw [aAg h];have hx:¬ tA=x:=fun e=>h (rG.2 (by rw [e];exact aAl.2 rfl));rw [aAg hx];show ((none:Option ByteArray).orElse fun _=>(if tB=x then some t2 else none).orElse fun _=>none)=_;by_cases h2:tB=x
 ·rw [aAh h2];rfl
 rw [aAg h2];rfl
theorem Z8 (x:ByteArray):rN (fun _=>none) kB.1 (fP []) x=cW kB.1 x:=by
 rw [rN,mV,aAg aAy,U5];by_cases h2:tB=x
 ·rw [aAh h2];rfl
 rw [aAg h2];rfl
theorem U4:cT kB.1=[tB]:=MX (List.pairwise_singleton _ _)
theorem GP:cZ (cE kB.1)≤1:=by
 have h:cE kB.1=bE kB.1 []:=aAg (by decide);rw [h];exact nP (fun p hp=>by
  have:=qB hp;simp only [aAl,Prod.mk.injEq] at this;rw [this.1,this.2];exact⟨aAo 1,aAo 1⟩) (fun s hs=>by cases hs) (by decide)
theorem L8:BX 9 0 PG.1 []=0:=AO (by decide) (by
 have h:cZ (bE PG.1 (fP []))≤1:=nP (fun p hp=>by
  have:=qB hp;simp only [aAu,aAy,or_false,Prod.mk.injEq] at this;rcases this with⟨e1,e2⟩|⟨e1,e2⟩<;>rw [e1,e2]<;>exact⟨aAo 1,aAo 1⟩) (fun s hs=>by rw [mV] at hs;cases hs) (by rw [mV];decide)
 omega)
theorem YQ:(if yE 9 0 false PG.1 [] = -1 then 0+cZ (bE PG.1 (fP []))else 0)≤1:=by
 have h:cZ (bE PG.1 (fP []))≤1:=nP (fun p hp=>by
  have:=qB hp;simp only [aAu,aAy,or_false,Prod.mk.injEq] at this;rcases this with⟨e1,e2⟩|⟨e1,e2⟩<;>rw [e1,e2]<;>exact⟨aAo 1,aAo 1⟩) (fun s hs=>by rw [mV] at hs;cases hs) (by rw [mV];decide)
 split<;>omega
theorem WD:cZ (bE [] (fP [tA]))≤1:=nP (fun p hp=>by cases hp) (fun s hs=>by
  have:=rG.1 hs;rw [aAl] at this;rw [this];exact aAo 1) (by have:=vD [tA];have e:([tA]:List ByteArray).length=1:=rfl;have e0:([]:bP).length=0:=rfl;omega)
theorem L7 {n:Nat} (h:n≤1):BX 9 n [] [tA]=0:=AO (by decide) (by have:=WD;omega)
theorem YP {n:Nat} (h:n≤1):(if yE 9 n false [] [tA] = -1 then n+cZ (bE [] (fP [tA]))else n)≤2:=by
 have:=WD
 split<;>omega
theorem L6:BX 9 0 kB.1 []=0:=AO (by decide) (by
 have h:cZ (bE kB.1 (fP []))≤1:=nP (fun p hp=>by
  have:=qB hp;simp only [aAl,Prod.mk.injEq] at this;rw [this.1,this.2];exact⟨aAo 1,aAo 1⟩) (fun s hs=>by rw [mV] at hs;cases hs) (by rw [mV];decide)
 omega)
theorem KP (n:Nat):(ofL (zB n)).size=n:=by rw [bU,zB,List.length_replicate]
theorem sN (k v:ByteArray):(eG [(k,v)]).1=[(k,v,0)]:=rfl
theorem BY {k v:ByteArray} (hk:eT k=true):bK (eG [(k,v)]).1 []=if(20000:Int) < (v.size:Int)then 2 else 0:=by
 rw [sN,bK];show (if(((!eT k||VC [] k)||false)||false)=true then(1:Int)else if(decide ((20000:Int) < (v.size:Int))||false)=true then 2 else 0)=_;rw [hk];show (if false=true then(1:Int)else if(decide ((20000:Int) < (v.size:Int))||false)=true then 2 else 0)=_;rw [aAg Bool.false_ne_true,Bool.or_false];by_cases h:(20000:Int) < (v.size:Int)
 ·rw [aAh (decide_eq_true h),aAh h]
 rw [aAg (by rw [decide_eq_false h];decide),aAg h]
theorem eH {n:Nat} {v:ByteArray} (hv:v.size=20001):BX 9 n (eG [(tC,v)]).1 []=2:=by
 have hw:bK (eG [(tC,v)]).1 []=2:=by rw [BY (by decide),hv];rfl
 rw [OK (by rw [hw];decide),hw]
theorem eI {n:Nat} {v:ByteArray} (hv:v.size=500):BX 9 n (eG [(tC,v)]).1 []=21:=by
 have hw:bK (eG [(tC,v)]).1 []=0:=by rw [BY (by decide),hv];rfl
 refine SG hw (by rw [sN];exact Nat.zero_lt_one) ?_;have h:=P2 (l:=(eG [(tC,v)]).1) (P:=fP []) (x:=tC) (by rw [sN];exact aAl.2 rfl);have hg:dJ (eG [(tC,v)]).1 tC=v:=by
  rw [sN];show (if tC=tC then v else _)=v;rw [aAh rfl]
 rw [hg,hv] at h;rw [cZ];omega
theorem GW (n:Nat):((List.replicate n [AV.pv (.int .u8 0)]).drop 0).take n=bA (zB n):=by rw [List.drop_zero,List.take_of_length_le (by rw [List.length_replicate];exact aAo _),bA,zB,List.map_replicate];rfl
theorem VK {a b:DSt} (h:a.cells=b.cells):lN a=lN b:=by rw [lN,lN,h]
theorem OI {d:DSt} {N:Nat} (h:Calm d N):(lN d).size=64*N:=by
 have:(lN d).size=(flat d.cells).length:=by rw [← dL,lN]
 rw [this,kF h.inv.ok.c,h.inv.n]
theorem RN (H:aA):aH Tryz.prog 10 [] H (fun r H'=>r=bv true∧H'=H):=by
 refine Pu ?_;have hop:=rA (k:=9) (qO (n:=20) (by omega) (by omega)) (tV (by omega)) (by omega) rfl;have hz1:=KP 20001;have hz2:=KP 500;have hb1:=GW 20001;have hb2:=GW 500;have hnew:=Q5 20 (by omega) (by omega);obtain ⟨tl,htl⟩:∃ tl,tl=(nC 20).cells.drop (2*9+2):=⟨_,rfl⟩;have hst0:∀ {l:bP} {c:Nat},dT l c→fI l→(∀ x,cW l x=none)→St 20 9 tl (nC 20) 0 0 l c (fun _=>none):=fun q1 q2 q3=>by
  rw [htl];exact WV (N:=20) (by omega) (by omega) q1 q2 q3
 clear htl;have hd3:=fun H k0 k1 k2 k3=>Z0 20 (by omega) (by omega) H k0 k1 k2 k3;have hop3:=fun H hs k4 k5=>YL (k:=9) (qO (n:=20) (by omega) (by omega)) (tV (by omega)) (by omega) rfl H hs k4 k5;obtain ⟨z1,hzz1⟩:∃ z,z=zB 20001:=⟨_,rfl⟩;obtain ⟨z2,hzz2⟩:∃ z,z=zB 500:=⟨_,rfl⟩;rw [← hzz1] at hz1 hb1;rw [← hzz2] at hz2 hb2;clear hzz1 hzz2;obtain ⟨e0,he0⟩:∃ e,e=nC 20:=⟨_,rfl⟩;rw [← he0] at hop hnew hst0 hd3 hop3;clear he0;refine Bd func10 rfl ntmps10<|Sr<|Dd aS<|Zz<|Sr<|Dd (by exact aB rfl rfl aA3 rfl (hnew))<|Dd aS<|Zz<|Sr<|Dm ?_;refine gJ rfl rfl (aB rfl rfl pP rfl hop) ?_;rintro _ _ ⟨rfl,l0,c0,q1,q2,q3,q4,rfl⟩;have hS0:=hst0 q1 q2 q4;clear q1 q2 q3 q4 hop hnew;refine Dd aF<|Dd dY<|Dd dY<|Dd aS<|Dd aS<|Zz<|Sr<|Dd aF<|Dd (by exact kT (id:=950) fR rfl rfl)<|Uu (by exact kV (κ:=fR) (l:=bR []) (k:=tA) (v:=sv t1) (.inr rfl) aV aL rfl (get_cons_same _ _ _) rfl rfl rfl rfl rfl (rD _ _ _ _) (uX _ _ _))<|Uu (by exact kV (κ:=fR) (l:=bR (eG [(tA,t1)]).1) (k:=tB) (v:=sv t2) (.inr rfl) aV aL rfl (get_cons_same _ _ _) rfl rfl rfl rfl rfl (rD _ _ _ _) (uX _ _ _))<|Dm ?_;refine gK (E':=[(1,.ref 1000 0 0 0),(2,.ref 1100 0 0 0),(3,iv 0),(28,.ref 1100 0 0 0),(30,.mp 950 0)]) (H':=(950,bB PG.1 PG.2)::sH e0 (bV 9 0 0 false) (bB l0 c0)) (cA.wk (Ea<|Ea<|Eb<|Ea<|Ea<|trivial) (Hc (aR _ _ _)<|Hc (aE _ _ rfl rfl rfl)<|Hc (aC _ _)<|Hc (aI _ _ _)<|Hc (aG _ _)<|Hc (bG rfl rfl)<|Hc (aR _ _ _)<|trivial) trivial) ?_;refine gJ rfl rfl (aB rfl rfl vQ rfl (mU hS0 (by omega) PG.1 PG.2 [] (gS _).1 (gS _).2 (by decide) (by decide))) ?_;rintro _ _ ⟨rfl,d1,n1,l1,c1,hS1,hn1,rfl⟩;rw [L8,aAh rfl] at hS1;rw [L8];have hn1:n1≤1:=by rw [hn1];exact YQ
 clear hS0;refine Dd aS<|Zz<|Sr<|Dd aF<|Dd (by exact bJ [[.str tA]] rfl cJ rfl rfl rfl rfl rfl (by simp)) ?_;refine gK (E':=[(1,.ref 1000 0 0 0),(2,.ref 1100 0 0 0),(3,iv 0),(4,iv 0),(32,.ref 1100 0 0 0),(33,.pv (aW [tA]))]) (H':=sH d1 (bV 9 0 n1 false) (bB l1 c1)) (cA.wk (Ea<|Ea<|Eb<|Eb<|Ea<|Eb<|trivial) (Hc (aE _ _ rfl rfl rfl)<|Hc (aC _ _)<|Hc (aI _ _ _)<|Hc (aG _ _)<|Hc (bG rfl rfl)<|Hc (aR _ _ _)<|trivial) trivial) ?_;refine gJ rfl rfl (aB rfl rfl vQ rfl (E4 hS1 (by omega) [tA] (by decide))) ?_;rintro _ _ ⟨rfl,d2,n2,l2,c2,hS2,hn2,rfl⟩;rw [L7 hn1,aAh rfl] at hS2;rw [L7 hn1];have hn2:n2≤2:=by rw [hn2];exact YP hn1
 clear hS1 hn1;obtain ⟨C,hC⟩:∃ C,C=rN (rN (fun _=>none) PG.1 (fP [])) [] (fP [tA]):=⟨_,rfl⟩;have hCB:∀ x,C x=cW kB.1 x:=fun x=>by rw [hC];exact Y5 x
 rw [← hC] at hS2;clear hC;have hgA:=JV d2 9 0 n2 false l2 c2 tA;have hgB:=JV d2 9 0 n2 false l2 c2 tB;have kA:cW l2 tA=none:=by rw [hS2.kv,hCB,U5,aAg (by decide)]
 have kBv:cW l2 tB=some t2:=by rw [hS2.kv,hCB,U5,aAh rfl]
 rw [mQ,kA] at hgA;rw [mQ,kBv] at hgB;refine Dd aS<|Zz<|Sr<|Dd aF<|Dd (by exact aB rfl rfl aAY rfl (hgA))<|Dd aF<|Dd dY<|Dd dY<|Dd aS<|Dd aS<|Zz<|Sr<|Dd aF<|Dd (by exact aB rfl rfl aAY rfl (hgB))<|Dd aF<|Dd dY<|Dd dY<|Dd aS<|Dd aS<|Zz<|Sr<|Dd aF<|Dd (by exact kN (id:=960) rfl A6 YX ZI rfl rfl rfl (by decide) (by decide) rfl rfl (by decide) rfl)<|Dd (by exact iB rfl bY bQ aL rfl rfl rfl rfl hb1 rfl)<|Dd (by exact aB rfl rfl aAZ rfl (Q0 tC (ofL z1) _ rfl)) ?_;refine gK (E':=[(1,.ref 1000 0 0 0),(2,.ref 1100 0 0 0),(3,iv 0),(4,iv 0),(5,iv 0),(7,bv false),(8,sv t2),(9,bv true),(45,.ref 1100 0 0 0),(48,.mp 950 0)]) (H':=(950,bB (eG [(tC,ofL z1)]).1 (eG [(tC,ofL z1)]).2)::sH d2 (bV 9 0 n2 false) (bB l2 c2)) (cA.wk (Ea<|Ea<|Eb<|Eb<|Eb<|Eb<|Eb<|Eb<|Ea<|Ea<|trivial) (Hc (aR _ _ _)<|Hc (aE _ _ rfl rfl rfl)<|Hc (aC _ _)<|Hc (aI _ _ _)<|Hc (aG _ _)<|Hc (bG rfl rfl)<|Hc (aR _ _ _)<|trivial) trivial) ?_;refine gJ rfl rfl (aB rfl rfl vQ rfl (mU hS2 (by omega) (eG [(tC,ofL z1)]).1 (eG [(tC,ofL z1)]).2 [] (gS _).1 (gS _).2 (by rw [sN];exact aAv rfl) (by decide))) ?_;rintro _ _ ⟨rfl,d3,n3,l3,c3,hS3,hn3,rfl⟩;rw [eH hz1,aAg (by decide)] at hS3;rw [eH hz1];clear hS2 hgA hgB kA kBv;refine gK (E':=[(1,.ref 1000 0 0 0),(2,.ref 1100 0 0 0),(3,iv 0),(4,iv 0),(5,iv 0),(7,bv false),(8,sv t2),(9,bv true),(49,iv 2)]) (H':=sH d3 (bV 9 0 n3 false) (bB l3 c3)) (cA.wk (Ea<|Ea<|Eb<|Eb<|Eb<|Eb<|Eb<|Eb<|Eb<|trivial) (Hc (aE _ _ rfl rfl rfl)<|Hc (aC _ _)<|Hc (aI _ _ _)<|Hc (aG _ _)<|Hc (bG rfl rfl)<|Hc (aR _ _ _)<|trivial) trivial) ?_;refine Dd aS<|Zz<|Sr<|Dd aF<|Dd (by exact kN (id:=960) rfl A6 YX ZI rfl rfl rfl (by decide) (by decide) rfl rfl (by decide) rfl)<|Dd (by exact iB rfl bY bQ aL rfl rfl rfl rfl hb2 rfl)<|Dd (by exact aB rfl rfl aAZ rfl (Q0 tC (ofL z2) _ rfl)) ?_;refine gK (E':=[(1,.ref 1000 0 0 0),(2,.ref 1100 0 0 0),(3,iv 0),(4,iv 0),(5,iv 0),(7,bv false),(8,sv t2),(9,bv true),(10,iv 2),(50,.ref 1100 0 0 0),(53,.mp 950 0)]) (H':=(950,bB (eG [(tC,ofL z2)]).1 (eG [(tC,ofL z2)]).2)::sH d3 (bV 9 0 n3 false) (bB l3 c3)) (cA.wk (Ea<|Ea<|Eb<|Eb<|Eb<|Eb<|Eb<|Eb<|Eb<|Ea<|Ea<|trivial) (Hc (aR _ _ _)<|Hc (aE _ _ rfl rfl rfl)<|Hc (aC _ _)<|Hc (aI _ _ _)<|Hc (aG _ _)<|Hc (bG rfl rfl)<|Hc (aR _ _ _)<|trivial) trivial) ?_;refine gJ rfl rfl (aB rfl rfl vQ rfl (mU hS3 (by omega) (eG [(tC,ofL z2)]).1 (eG [(tC,ofL z2)]).2 [] (gS _).1 (gS _).2 (by rw [sN];exact aAv rfl) (by decide))) ?_;rintro _ _ ⟨rfl,d4,n4,l4,c4,hS4,hn4,rfl⟩;rw [eI hz2,aAg (by decide)] at hS4;rw [eI hz2];clear hS3 hn3 hn4;have hw4:cE l4=cE kB.1:=yG hS4.nd (gS _).2 fun x=>by rw [hS4.kv,hCB]
 have hsc4:WA 9 l4=0:=aAg (by rw [hw4];have:=GP;omega);refine Dd aS<|Zz<|Sr<|Dm ?_;refine gK (E':=[(1,.ref 1000 0 0 0),(3,iv 0),(4,iv 0),(5,iv 0),(7,bv false),(8,sv t2),(9,bv true),(10,iv 2),(11,iv 21),(55,.ref 1100 0 0 0)]) (H':=sH d4 (bV 9 0 n4 false) (bB l4 c4)) (cA.wk (Ea<|Eb<|Eb<|Eb<|Eb<|Eb<|Eb<|Eb<|Eb<|Ea<|trivial) (Hc (aE _ _ rfl rfl rfl)<|Hc (aC _ _)<|Hc (aI _ _ _)<|Hc (aG _ _)<|Hc (bG rfl rfl)<|Hc (aR _ _ _)<|trivial) trivial) ?_;refine gJ rfl rfl (aB rfl rfl aA0 rfl (yS hS4 (by omega))) ?_;rintro _ _ ⟨rfl,d5,a5,n5,hS5,hcan5,rfl⟩;have hcan5:=hcan5 hsc4;rw [hw4] at hcan5;rw [hsc4];clear hS4 hsc4 hw4;have hraw5:=iH (o:=bV 9 a5 n5 false) (m:=bB l4 c4) (F5 d5 hS5.calm.inv.ok) (by simp;rfl);refine Dd aS<|Zz<|Sr<|Dd aF<|Dd (by exact aB rfl rfl vP rfl (hraw5))<|Dd aS<|Zz<|Sr<|Dm ?_;refine gK (E':=[(1,.ref 1000 0 0 0),(3,iv 0),(4,iv 0),(5,iv 0),(7,bv false),(8,sv t2),(9,bv true),(10,iv 2),(11,iv 21),(12,iv 0),(13,sv (lN d5)),(60,.ref 1000 0 0 0)]) (H':=aU d5) (cA.wk (Ea<|Eb<|Eb<|Eb<|Eb<|Eb<|Eb<|Eb<|Eb<|Eb<|Eb<|Ea<|trivial) (Hc (aE _ _ rfl rfl rfl)<|Hc (aC _ _)<|Hc (aI _ _ _)<|Hc (aG _ _)<|trivial) trivial) ?_;refine gJ rfl rfl (aB rfl rfl pP rfl (rA hS5.calm hS5.inv (by omega) rfl)) ?_;rintro _ _ ⟨rfl,l6,c6,q1,q2,q3,q4,rfl⟩;have hk6:cT l6=[tB]:=(vT q2 (gS _).2 fun x=>by rw [q4,hCB]).trans U4;have hl6:l6.length < 1099511627776:=by have:=hS5.inv.nk;omega
 have hd5:(lN d5).size=1280:=OI hS5.calm;have hkey:=LV d5 9 a5 n5 false l6 c6 q1 hl6;rw [hk6] at hkey;clear hS5 hraw5 q2 q3 q4;refine Dd aF<|Dd dY<|Dd dY<|Dd aS<|Dd aS<|Zz<|Sr<|Dd (by exact aB rfl rfl aA3 rfl (hd3 _ rfl rfl rfl rfl))<|Dd aS<|Zz<|Sr<|Dm ?_;refine gJ rfl rfl (aB rfl rfl pP rfl (hop3 _ (qU _ _) rfl rfl)) ?_;rintro _ _ ⟨rfl,l7,c7,p1,p2,p3,p4,rfl⟩;have hS7:=hst0 p1 p2 p4;clear p1 p2 p3 p4 hd3 hop3 hst0;refine Dd aF<|Dd dY<|Dd dY<|Dd aS<|Dd aS<|Zz<|Sr<|Dd aF<|Dd (by exact aB rfl rfl aAZ rfl (Q0 tB t2 _ rfl)) ?_;refine gK (E':=[(3,iv 0),(4,iv 0),(5,iv 0),(7,bv false),(8,sv t2),(9,bv true),(10,iv 2),(11,iv 21),(12,iv 0),(13,sv (lN d5)),(14,.ref 1100 0 0 0),(15,iv 0),(16,.ref 3000 0 0 0),(17,.ref 3100 0 0 0),(18,iv 0),(70,.ref 3100 0 0 0),(71,.mp 950 0)]) (H':=((950,bB kB.1 kB.2)::IR e0 (xN 9 0 0 false) (bB l7 c7))++sH d5 (bV 9 a5 n5 false) (bB l6 c6)) (cA.wk (Eb<|Eb<|Eb<|Eb<|Eb<|Eb<|Eb<|Eb<|Eb<|Eb<|Ea<|Eb<|Ea<|Ea<|Eb<|Ea<|Ea<|trivial) (Hc (aR _ _ _)<|Hc (lX _ _ rfl rfl rfl)<|Hc (aC _ _)<|Hc (aI _ _ _)<|Hc (aG _ _)<|Hc (DP rfl rfl)<|Hc (aR _ _ _)<|Hc (aE _ _ rfl rfl rfl)<|Hc (aC _ _)<|Hc (aI _ _ _)<|Hc (aG _ _)<|Hc (bG rfl rfl)<|Hc (aR _ _ _)<|trivial) trivial) ?_;refine gJ rfl rfl (aB rfl rfl vQ rfl (VO hS7 (by omega) kB.1 kB.2 [] (gS _).1 (gS _).2 (by rw [sN];exact aAv rfl) (by decide) _ (qU _ _))) ?_;rintro _ _ ⟨rfl,d8,n8,l8,c8,hS8,hn8,rfl⟩;rw [L6,aAh rfl] at hS8;rw [L6];have hw8:cE l8=cE kB.1:=yG hS8.nd (gS _).2 fun x=>by rw [hS8.kv,Z8]
 have hsc8:WA 9 l8=0:=aAg (by rw [hw8];have:=GP;omega);clear hS7 hn8;refine Dd aS<|Zz<|Sr<|Dm ?_;refine gK (E':=[(3,iv 0),(4,iv 0),(5,iv 0),(7,bv false),(8,sv t2),(9,bv true),(10,iv 2),(11,iv 21),(12,iv 0),(13,sv (lN d5)),(14,.ref 1100 0 0 0),(15,iv 0),(16,.ref 3000 0 0 0),(18,iv 0),(19,iv 0),(73,.ref 3100 0 0 0)]) (H':=IR d8 (xN 9 0 n8 false) (bB l8 c8)++sH d5 (bV 9 a5 n5 false) (bB l6 c6)) (cA.wk (Eb<|Eb<|Eb<|Eb<|Eb<|Eb<|Eb<|Eb<|Eb<|Eb<|Ea<|Eb<|Ea<|Eb<|Eb<|Ea<|trivial) (Hc (lX _ _ rfl rfl rfl)<|Hc (aC _ _)<|Hc (aI _ _ _)<|Hc (aG _ _)<|Hc (DP rfl rfl)<|Hc (aR _ _ _)<|Hc (aE _ _ rfl rfl rfl)<|Hc (aC _ _)<|Hc (aI _ _ _)<|Hc (aG _ _)<|Hc (bG rfl rfl)<|Hc (aR _ _ _)<|trivial) trivial) ?_;refine gJ rfl rfl (aB rfl rfl aA0 rfl (W1 hS8 (by omega) _ (qU _ _))) ?_;rintro _ _ ⟨rfl,d9,a9,n9,hS9,hcan9,rfl⟩;have hcan9:=hcan9 hsc8;rw [hw8] at hcan9;rw [hsc8];clear hS8 hsc8 hw8;have hreq:lN d5=lN d9:=VK (hcan5.trans hcan9.symm);refine gK (E':=[(3,iv 0),(4,iv 0),(5,iv 0),(7,bv false),(8,sv t2),(9,bv true),(10,iv 2),(11,iv 21),(12,iv 0),(13,sv (lN d5)),(14,.ref 1100 0 0 0),(15,iv 0),(16,.ref 3000 0 0 0),(18,iv 0),(19,iv 0),(74,iv 0)]) (H':=sH d5 (bV 9 a5 n5 false) (bB l6 c6)++lE d9) (cA.wk (Eb<|Eb<|Eb<|Eb<|Eb<|Eb<|Eb<|Eb<|Eb<|Eb<|Ea<|Eb<|Ea<|Eb<|Eb<|Eb<|trivial) (Hc (aE _ _ rfl rfl rfl)<|Hc (aC _ _)<|Hc (aI _ _ _)<|Hc (aG _ _)<|Hc (bG rfl rfl)<|Hc (aR _ _ _)<|Hc (lX _ _ rfl rfl rfl)<|Hc (aC _ _)<|Hc (aI _ _ _)<|Hc (aG _ _)<|trivial) trivial) ?_;have hkey:=aH.frameS (H:=sH d5 (bV 9 a5 n5 false) (bB l6 c6)++lE d9) hkey (qU _ _) (qW _ _ _ _ _ _ _) (by simp;rfl);have hraw9:=ZZ d9 hS9.calm.inv.ok (sH d5 (bV 9 a5 n5 false) (bB l6 c6)++lE d9) (fun j o h=>by rcases YT (d:=d9) (id:=j) (by rw [h];rfl)with rfl|rfl|rfl|rfl<;>exact h);have hsame:=yT [tB] [tB] (sH d5 (bV 9 a5 n5 false) (bB l6 c6)++lE d9) (by decide) (by decide);rw [decide_eq_true rfl] at hsame;refine Dd aS<|Zz<|Sr<|Dd aF<|Dd hU<|Dd aF<|On aF<|On hU<|Dd fV<|Dd aF<|On aF<|On hU<|Dd fV<|Dd aF<|On aF<|On A2<|Dd fV<|Dd aF<|On aF<|Dd fV<|Dd aF<|On aF<|On W0<|Dd fV<|Dd aF<|On aF<|On hU<|Dd fV<|Dd aF<|On aF<|On hU<|Dd fV<|Dd aF<|On aF<|On hU<|Dd fV<|Dd aF<|On aF<|On hU<|Dd fV<|Dd aF<|On aF<|On (by exact aB rfl rfl aA1 rfl (hkey))<|On (by exact bJ [[.str tB]] rfl cJ rfl rfl rfl rfl rfl (by simp))<|On (by exact aB rfl rfl aA2 rfl (hsame))<|Dd fV<|Dd aS<|Zz<|Sq ?_;have h135:AV.pv (.bool (decide (lN d5=lN d9)))=bv true:=by rw [decide_eq_true hreq]
 have h140:AV.pv (.bool (decide (((lN d5).size:Int)=1280)))=bv true:=by rw [hd5];rfl
 exact Rg<|Dd aF<|Dd aF<|On aF<|On hU<|Dd fV<|Dd aF<|On aF<|On hU<|Dd fV<|Dd aF<|On aF<|On hU<|Dd fV<|Dd aF<|On aF<|On aF<|On (by exact aB rfl rfl vP rfl (hraw9))<|On (by exact bW.eqv (pW rfl rfl rfl) h135)<|Dd fV<|Dd aF<|On aF<|On (BP aL)<|On (by exact bW.eqv (xX rfl rfl rfl) h140)<|Dd fV<|Dd aS<|Zz<|aM<|Rt<|Qq
end Go.Proofs.YtmkgeogoojcciaaGreatDoor
