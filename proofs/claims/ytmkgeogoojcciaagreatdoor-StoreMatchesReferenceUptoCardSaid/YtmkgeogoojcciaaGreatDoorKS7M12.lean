/-
  Parts of the proof: rules of an abstract program logic, contracts of functions, plain laws. Conditions: each theorem's own.
-/
import Derived.Test.YtmkgeogoojcciaaGreatDoorKS7M11
set_option linter.unusedVariables false
set_option linter.unusedSimpArgs false
set_option maxRecDepth 100000
set_option maxHeartbeats 8000000
namespace Go.Proofs
theorem rP:type_of% Tryz.call12:=Tryz.call12
theorem aCi:type_of% Tryz.call13:=Tryz.call13
theorem kP:type_of% Tryz.call14:=Tryz.call14
theorem jC:type_of% Tryz.call15:=Tryz.call15
theorem vS:type_of% Tryz.call17:=Tryz.call17
theorem CO:type_of% Tryz.call18:=Tryz.call18
theorem CN:type_of% Tryz.call21:=Tryz.call21
theorem N4:type_of% Tryz.call22:=Tryz.call22
theorem aCh:type_of% Tryz.call27:=Tryz.call27
theorem aCg:type_of% Tryz.call28:=Tryz.call28
theorem aCf:type_of% Tryz.call30:=Tryz.call30
theorem rO:type_of% Tryz.call32:=Tryz.call32
theorem CM:type_of% Tryz.call33:=Tryz.call33
theorem CL:type_of% Tryz.call34:=Tryz.call34
theorem N2:type_of% Tryz.call35:=Tryz.call35
theorem aCe:type_of% Tryz.call36:=Tryz.call36
theorem aCd:type_of% Tryz.call38:=Tryz.call38
theorem aCc:type_of% Tryz.call39:=Tryz.call39
theorem aH9:type_of% Tryz.call40:=Tryz.call40
end Go.Proofs
namespace Go.Proofs.YtmkgeogoojcciaaGreatDoor
open Go.Proofs.Tryz
open Go.Abs Go.Lib
def IF (n:Nat):Nat:=if n=1100∨n=1101∨n=1102 then n+1000 else if n=2100∨n=2101∨n=2102 then n - 1000 else if n=950 then 960 else if n=960 then 950 else n
theorem pU (n:Nat):IF (IF n)=n:=by
 unfold IF
 repeat' split
 all_goals omega
abbrev JZ (s:DSt) (x:RX):List AV:=[.osl 2101 x.gs 0 s.cells.length,.osl 2102 x.gq 0 s.q.length,bv (!s.off),bv (TM s),iv (JD s x),iv (JC s x),iv (JB s x)]
abbrev jW (s:DSt) (x:RX):aE:=[(2100,⟨0,7,107,[JZ s x]⟩),(2101,⟨x.gs,1,9,pB s.cells⟩),(2102,⟨x.gq,2,127,uF s.q⟩)]
abbrev uL (k a n:Nat) (L:KP) (b:Bool):Ob:=⟨0,6,110,[[.ref 2100 0 0 0,iv (k:Int),iv (a:Int),iv (n:Int),.pv (hU L),bv b]]⟩
abbrev vM (s:DSt) (x:RX) (o:Ob):aE:=[(2100,⟨0,7,107,[JZ s x]⟩),(2101,⟨x.gs,1,9,pB s.cells⟩),(2102,⟨x.gq,2,127,uF s.q⟩),(1200,o)]
abbrev CY (l2:cN) (c2:Nat) (d:DSt) (x:RX) (o:Ob):aE:=(960,cB l2 c2)::vM d x o
theorem oR (s:DSt) (x:RX):jM IF (dA s x)=jW s x:=by simp only [dA,jW,jM,lU,List.map_cons,List.map_nil,xN,fC,JZ,kR];rfl
theorem nF (s:DSt) (x:RX) (k a n:Nat) (L:KP) (b:Bool):jM IF (jH s x (gO k a n L b))=vM s x (uL k a n L b):=by simp only [jH,vM,jM,lU,List.map_cons,List.map_nil,xN,fC,JZ,kR];rfl
theorem uJ (l2:cN) (c2:Nat) (s:DSt) (x:RX) (k a n:Nat) (L:KP) (b:Bool):jM IF (CZ l2 c2 s x (gO k a n L b))=CY l2 c2 s x (uL k a n L b):=by have h:=nF s x k a n L b;have e:=xK IF l2 c2;show (IF 950,lU IF (cB l2 c2))::jM IF (jH s x (gO k a n L b))=_;rw [h,e];rfl
theorem F8 (s:DSt) (x:RX) (H:aE) (h1:(H.get 2101).isSome=true) (h2:(H.get 2102).isSome=true):∀ r∈[JZ s x],∀ a∈r,Clo H a:=by
 intro r hr a ha;rw [aHu.1 hr] at ha;simp only [JZ,aID,aIH,or_false] at ha;rcases ha with rfl|rfl|rfl|rfl|rfl|rfl|rfl
 ·exact .osl h1
 ·exact .osl h2
 all_goals exact .pv _
theorem O0 {H:aE} {k a n:Nat} {L:KP} {b:Bool} (h:(H.get 2100).isSome=true):∀ r∈(uL k a n L b).rows,∀ y∈r,Clo H y:=by
 intro r hr y hy;rw [aHu.1 hr] at hy;simp only [aID,aIH,or_false] at hy;rcases hy with rfl|rfl|rfl|rfl|rfl|rfl
 ·exact .ref h
 all_goals exact .pv _
theorem A1 (s:DSt) (x:RX):bT (jW s x):=bT.of (fun p hp=>by
 simp only [jW,aID,aIH,or_false] at hp;rcases hp with rfl|rfl|rfl
 ·exact F8 s x _ rfl rfl
 ·exact aD _ _ _
 exact aD _ _ _)
theorem wE (s:DSt) (x:RX) (k a n:Nat) (L:KP) (b:Bool):bT (vM s x (uL k a n L b)):=bT.of (fun p hp=>by
 simp only [vM,aID,aIH,or_false] at hp;rcases hp with rfl|rfl|rfl|rfl
 ·exact F8 s x _ rfl rfl
 ·exact aD _ _ _
 ·exact aD _ _ _
 exact O0 rfl)
theorem DX (l2:cN) (c2:Nat) (s:DSt) (x:RX) (k a n:Nat) (L:KP) (b:Bool):bT (CY l2 c2 s x (uL k a n L b)):=bT.of (fun p hp=>by
 simp only [CY,vM,aID,aIH,or_false] at hp;rcases hp with rfl|rfl|rfl|rfl|rfl
 ·exact aU _ _ _
 ·exact F8 s x _ rfl rfl
 ·exact aD _ _ _
 ·exact aD _ _ _
 exact O0 rfl)
theorem F7 {d d':DSt} {x x':RX} {id:Nat} (h:((jW d' x').get id).isSome=true):((jW d x).get id).isSome=true:=by simp only [jW,aE.get] at h ⊢;cases e0:Nat.beq 2100 id<;>cases e1:Nat.beq 2101 id<;>cases e2:Nat.beq 2102 id<;>simp [e0,e1,e2] at h ⊢
theorem WM {d d':DSt} {x x':RX} {o o':Ob} {id:Nat} (h:((vM d' x' o').get id).isSome=true):((vM d x o).get id).isSome=true:=by simp only [vM,aE.get] at h ⊢;cases e0:Nat.beq 2100 id<;>cases e1:Nat.beq 2101 id<;>cases e2:Nat.beq 2102 id<;>cases e3:Nat.beq 1200 id<;>simp [e0,e1,e2,e3] at h ⊢
theorem WX {l2:cN} {c2:Nat} {d d':DSt} {x x':RX} {o o':Ob} {id:Nat} (h:((CY l2 c2 d' x' o').get id).isSome=true):((CY l2 c2 d x o).get id).isSome=true:=by simp only [CY,vM,aE.get] at h ⊢;cases e4:Nat.beq 960 id<;>cases e0:Nat.beq 2100 id<;>cases e1:Nat.beq 2101 id<;>cases e2:Nat.beq 2102 id<;>cases e3:Nat.beq 1200 id<;>simp [e0,e1,e2,e3,e4] at h ⊢
theorem R5 {f:FuncId} {args0 args:List AV} {d d':DSt} {x x':RX} {r0:AV} (h:aK Tryz.prog f args0 (dA d x) (fun r H'=>r=r0∧H'=dA d' x')) (ha:kR IF args0=args) (H:aE) (hs:lZ H (jW d x)) (hac:∀ a∈args,Clo (jW d x) a) :
  aK Tryz.prog f args H (fun r H'=>r=jN IF r0∧H'=jW d' x'++H):=by
 refine(K9 pU h ha (oR d x) hs.sub (A1 d x) hac ?_).mono ?_
 ·rintro r K ⟨_,rfl⟩ id hid;rw [oR] at hid;exact .inl (F7 hid)
 rintro r H' ⟨r1,K,⟨rfl,rfl⟩,rfl,rfl⟩;rw [oR];exact Qq
theorem aFv (n:Nat) (h1:1≤n) (h2:n≤8000) (H:aE) (g0:H.get 2100=none) (g1:H.get 2101=none) (g2:H.get 2102=none) :
  aK Tryz.prog 31 [iv (n:Int)] H (fun r H'=>r=.ref 2100 0 0 0∧H'=jW (pK n) ⟨n,0,0,0,0⟩++H):=by
 refine(K9 pU (aEu n h1 h2) (args':=[iv (n:Int)]) (H3:=[]) rfl rfl (fun _ _ h=>by cases h) (fun _ _ h=>by cases h) (by simp) ?_).mono ?_
 ·rintro r K ⟨_,rfl⟩ id hid;rw [oR] at hid;right;simp only [jW,aE.get] at hid;cases e0:Nat.beq 2100 id with
  | true=>rw [← Nat.eq_of_beq_eq_true e0];exact g0
  | false =>
   cases e1:Nat.beq 2101 id with
   | true=>rw [← Nat.eq_of_beq_eq_true e1];exact g1
   | false =>
    cases e2:Nat.beq 2102 id with
    | true=>rw [← Nat.eq_of_beq_eq_true e2];exact g2
    | false=>rw [e0,e1,e2] at hid;cases hid
 rintro r H' ⟨r1,K,⟨rfl,rfl⟩,rfl,rfl⟩;rw [oR];exact Qq
theorem CR {d:DSt} {x:RX} {N k:Nat} (h:OnD d N∨jA d N) (hp:cY d) (hk:k=(N - 2) / 2) (hN:N≤200) (H:aE) (hs:lZ H (jW d x)) (g:H.get 1200=none) :
  aK Tryz.prog 32 [.ref 2100 0 0 0] H (fun r H'=>(¬ (nT d N k).1=0∧r=.tup [.pv .nilp,iv (nT d N k).1]∧∃ x',H'=jW (nT d N k).2 x'++H) ∨
   ((nT d N k).1=0∧r=.tup [.ref 1200 0 0 0,iv 0]∧∃ x' L,SP L∧(∀ y,dX L y=OA d k (sV d k) (rQ d k) y)∧H'=vM (nT d N k).2 x' (uL k (sV d k) (rQ d k) L false)++H)):=by
 refine(K9 pU (WP h hp hk hN) (args':=[.ref 2100 0 0 0]) rfl (oR d x) hs.sub (A1 d x) (by simp;rfl) ?_).mono ?_
 ·rintro r K (⟨_,_,x',rfl⟩|⟨_,_,x',L,_,_,rfl⟩) id hid
  ·rw [oR] at hid;exact .inl (F7 hid)
  rw [nF] at hid;simp only [vM,aE.get] at hid;cases e3:Nat.beq 1200 id with
  | true=>rw [← Nat.eq_of_beq_eq_true e3];exact .inr g
  | false =>
   left;simp only [jW,aE.get];cases e0:Nat.beq 2100 id<;>cases e1:Nat.beq 2101 id<;>cases e2:Nat.beq 2102 id<;>simp [e0,e1,e2,e3] at hid ⊢
 rintro r H' ⟨r1,K,(⟨h1,rfl,x',rfl⟩|⟨h1,rfl,x',L,q1,q2,rfl⟩),rfl,rfl⟩
 ·rw [oR];exact .inl ⟨h1,rfl,x',rfl⟩
 rw [nF];exact .inr ⟨h1,rfl,x',L,q1,q2,rfl⟩
theorem aAZ {d:DSt} {x:RX} {N m:Nat} (h:DInv d N m) (hp:cY d) (k a n:Nat) (b:Bool) (L:KP) (l2:cN) (c2:Nat) (P:List ByteArray) (hk:k < 4000) (ha:a < 2) (hn:n≤k) (hm:m≤10) (hL:L.length≤100000) (hst2:fI l2 c2) (hnd2:gX l2) (hl2:l2.length≤5000) (hP:P.length≤5000) (hz:∀ p∈l2,p.1.size≤5000∧p.2.1.size≤5000) (hzP:∀ s∈P,s.size≤5000) (H:aE) (hs:lZ H (CY l2 c2 d x (uL k a n L b))) :
  aK Tryz.prog 34 [.ref 1200 0 0 0,.mp 960 0,.pv (aX P)] H (fun r H'=>(¬ tX k n b l2 P = -1∧r=iv (tX k n b l2 P)∧H'=CY l2 c2 d x (uL k a n L b)++H) ∨
   (tX k n b l2 P = -1∧¬ (fR d k a n (bM l2 (fN P))).1=0∧r=iv (fR d k a n (bM l2 (fN P))).1∧∃ x',H'=CY l2 c2 (fR d k a n (bM l2 (fN P))).2 x' (uL k a n L true)++H) ∨
   (tX k n b l2 P = -1∧(fR d k a n (bM l2 (fN P))).1=0∧r=iv 0∧∃ x',H'=CY l2 c2 (fR d k a n (bM l2 (fN P))).2 x' (uL k a (n+dD (bM l2 (fN P))) (iA (iI L (prs l2)) (fN P)) false)++H)):=by
 refine(K9 pU (W1 (x:=x) h hp k a n b L l2 c2 P hk ha hn hm hL hst2 hnd2 hl2 hP hz hzP) (args':=[.ref 1200 0 0 0,.mp 960 0,.pv (aX P)]) rfl (uJ l2 c2 d x k a n L b) hs.sub (DX l2 c2 d x k a n L b) (by simp;exact⟨rfl,rfl⟩) ?_).mono ?_
 ·rintro r K (⟨_,_,rfl⟩|⟨_,_,_,x',rfl⟩|⟨_,_,_,x',rfl⟩) id hid;all_goals
   rw [uJ] at hid;exact .inl (WX hid)
 rintro r H' ⟨r1,K,(⟨h1,rfl,rfl⟩|⟨h1,h2,rfl,x',rfl⟩|⟨h1,h2,rfl,x',rfl⟩),rfl,rfl⟩
 ·rw [uJ];exact .inl ⟨h1,rfl,rfl⟩
 ·rw [uJ];exact .inr (.inl ⟨h1,h2,rfl,x',rfl⟩)
 rw [uJ];exact .inr (.inr ⟨h1,h2,rfl,x',rfl⟩)
theorem EW (l:List (ByteArray×ByteArray)) (H:aE) (h:H.get 960=none) (hl:l.length < 1099511627776):aK Tryz.prog 15 [.pv (hU l)] H (fun r H'=>r=.mp 960 0∧H'=(960,cB (fJ l).1 (fJ l).2)::H):=by
 refine(K9 pU (wK l [] rfl hl) (args':=[.pv (hU l)]) (H3:=[]) rfl rfl (fun _ _ h=>by cases h) (fun _ _ h=>by cases h) (by simp) ?_).mono ?_
 ·rintro r K ⟨_,rfl⟩ id hid;right;have e:=xK IF (fJ l).1 (fJ l).2;simp only [jM,List.map_cons,List.map_nil,e,aE.get] at hid;cases e0:Nat.beq 960 id with
  | true=>rw [← Nat.eq_of_beq_eq_true e0];exact h
  | false =>
   have e1:IF 950=960:=rfl;rw [e1,e0] at hid;cases hid
 rintro r H' ⟨r1,K,⟨rfl,rfl⟩,rfl,rfl⟩;have e:=xK IF (fJ l).1 (fJ l).2;refine⟨rfl,?_⟩;simp only [jM,List.map_cons,List.map_nil,e];rfl
theorem WW (l2:cN) (c2:Nat) (d:DSt) (x:RX) (k a n:Nat) (L:KP) (P:List ByteArray) (H:aE) (hs:lZ H (CY l2 c2 d x (uL k a n L true))):aK Tryz.prog 34 [.ref 1200 0 0 0,.mp 960 0,.pv (aX P)] H (fun r H'=>r=iv 12∧H'=H):=by have h:=aK.ren (ρ:=IF) pU (R8 l2 c2 d x k a n L P) (args':=[.ref 1200 0 0 0,.mp 960 0,.pv (aX P)]) (r':=iv 12) rfl (uJ l2 c2 d x k a n L true) rfl (uJ l2 c2 d x k a n L true);exact aK.frameS h hs.sub (DX l2 c2 d x k a n L true) (by simp;exact⟨rfl,rfl⟩)
theorem aDE {d:DSt} {x:RX} {N m:Nat} (h:DInv d N m) (hp:cY d) (k a n:Nat) (l:cN) (hk:k < 4000) (ha:a < 2) (hn:n≤k) (hm:m≤10) (hl:l.length≤5000) (hz:∀ p∈prs l,p.1.size≤5000∧p.2.size≤5000) (H:aE) (hs:lZ H (vM d x (uL k a n (prs l) false))) :
  aK Tryz.prog 35 [.ref 1200 0 0 0] H (fun r H'=>(k < dD (cE l)∧r=iv 21∧H'=vM d x (uL k a n (prs l) false)++H)∨(dD (cE l)≤k∧r=iv (uB d k a (cE l)).1∧∃ x' a' n',((uB d k a (cE l)).1=0→a'=0∧n'=dD (cE l))∧H'=vM (uB d k a (cE l)).2 x' (uL k a' n' (prs l) (!decide ((uB d k a (cE l)).1=0)))++H)):=by
 refine(K9 pU (aA3 (x:=x) h hp k a n l hk ha hn hm hl hz) (args':=[.ref 1200 0 0 0]) rfl (nF d x k a n (prs l) false) hs.sub (wE d x k a n (prs l) false) (by simp;rfl) ?_).mono ?_
 ·rintro r K (⟨_,_,rfl⟩|⟨_,_,x',a',n',_,rfl⟩) id hid;all_goals
   rw [nF] at hid;exact .inl (WM hid)
 rintro r H' ⟨r1,K,(⟨h1,rfl,rfl⟩|⟨h1,rfl,x',a',n',h2,rfl⟩),rfl,rfl⟩
 ·rw [nF];exact .inl ⟨h1,rfl,rfl⟩
 rw [nF];exact .inr ⟨h1,rfl,x',a',n',h2,rfl⟩
theorem aAO (d:DSt) (x:RX) (k a n:Nat) (L:KP) (H:aE) (hs:lZ H (vM d x (uL k a n L true))):aK Tryz.prog 35 [.ref 1200 0 0 0] H (fun r H'=>r=iv 12∧H'=H):=by have h:=aK.ren (ρ:=IF) pU (W0 d x k a n L) (args':=[.ref 1200 0 0 0]) (r':=iv 12) rfl (nF d x k a n L true) rfl (nF d x k a n L true);exact aK.frameS h hs.sub (wE d x k a n L true) (by simp;rfl)
theorem U6 (d:DSt) (x:RX) (k a n:Nat) (L:KP) (b:Bool) (hL:L.length≤100000) (H:aE) (hs:lZ H (vM d x (uL k a n L b))):aK Tryz.prog 33 [.ref 1200 0 0 0] H (fun r H'=>r=.pv (aX (mX L))∧H'=H):=by have h:=aK.ren (ρ:=IF) pU (aAx d x k a n L b hL) (args':=[.ref 1200 0 0 0]) (r':=.pv (aX (mX L))) rfl (nF d x k a n L b) rfl (nF d x k a n L b);exact aK.frameS h hs.sub (wE d x k a n L b) (by simp;rfl)
theorem SH {d:DSt} {N k:Nat} (h:OnD d N∨jA d N) (hk:k=(N - 2) / 2) (H:aE) (hs:lZ H (bN d)) (g0:H.get 1100=none) (g1:H.get 1101=none) :
  aK Tryz.prog 12 [.ref 1000 0 0 0] H (fun r H'=>(¬ (nT d N k).1=0∧r=.tup [.pv .nilp,iv (nT d N k).1]∧H'=bN (nT d N k).2++H) ∨
   ((nT d N k).1=0∧r=.tup [.ref 1100 0 0 0,iv 0]∧∃ l c,fI l c∧gX l∧l.length≤46*rQ d k∧(∀ x,eN l x=OA d k (sV d k) (rQ d k) x)∧H'=sH (nT d N k).2 (dU k (sV d k) (rQ d k) false) (cB l c)++H)):=by
 refine(aK.frameQ (aAf h hk) hs.sub (nM d) (by simp;rfl) ?_).mono ?_
 ·rintro r K (⟨_,_,rfl⟩|⟨_,_,l,c,_,_,_,_,rfl⟩) id hid
  ·exact KU d _ H id hid
  simp only [sH,aE.get] at hid;cases e4:Nat.beq 1100 id with
  | true=>rw [← Nat.eq_of_beq_eq_true e4];exact .inr g0
  | false =>
   cases e5:Nat.beq 1101 id with
   | true=>rw [← Nat.eq_of_beq_eq_true e5];exact .inr g1
   | false =>
    left;simp only [bN,aE.get];cases e0:Nat.beq 1000 id<;>cases e1:Nat.beq 1001 id<;>cases e2:Nat.beq 1002 id<;>cases e3:Nat.beq 1003 id<;>simp [e0,e1,e2,e3,e4,e5] at hid ⊢
 rintro r H' ⟨K,(⟨h1,rfl,rfl⟩|⟨h1,rfl,l,c,q1,q2,q3,q4,rfl⟩),rfl⟩
 ·exact .inl ⟨h1,rfl,rfl⟩
 exact .inr ⟨h1,rfl,l,c,q1,q2,q3,q4,rfl⟩
theorem aBe {l2:cN} {c2:Nat} {d d':DSt} {o o' m m':Ob} {id:Nat} (h:(aE.get ((950,cB l2 c2)::sH d' o' m') id).isSome=true):(aE.get ((950,cB l2 c2)::sH d o m) id).isSome=true:=by
 simp only [aE.get] at h ⊢;cases e:Nat.beq 950 id with
 | true=>rfl
 | false =>
  rw [e] at h;exact LY h
theorem HQ (l2:cN) (c2:Nat) (s:DSt) (k a n:Nat) (b:Bool) (l:cN) (c:Nat):bT ((950,cB l2 c2)::sH s (dU k a n b) (cB l c)):=bT.of (fun p hp=>by
 simp only [sH,aID,aIH,or_false] at hp;rcases hp with rfl|rfl|rfl|rfl|rfl|rfl|rfl
 ·exact aU _ _ _
 ·exact aM s _ rfl rfl rfl
 ·exact aG _ _
 ·exact aD _ _ _
 ·exact aP _ _
 ·exact cF rfl rfl
 exact aU _ _ _)
theorem aBc {d:DSt} {N m:Nat} (h:DInv d N m) (k a n:Nat) (b:Bool) (l:cN) (c:Nat) (l2:cN) (c2:Nat) (P:List ByteArray) (hk:k < 4000) (ha:a < 2) (hn:n≤k) (hm:m≤10) (hst:fI l c) (hnd:gX l) (hst2:fI l2 c2) (hnd2:gX l2) (hl2:l2.length < 1000000) (hP:P.length < 1000000) (hsz:bX l2 P=0→(bM l2 (fN P)).length < 100000000) (H:aE) (hs:lZ H ((950,cB l2 c2)::sH d (dU k a n b) (cB l c))) :
  aK Tryz.prog 14 [.ref 1100 0 0 0,.mp 950 0,.pv (aX P)] H (fun r H'=>(¬ tX k n b l2 P = -1∧r=iv (tX k n b l2 P)∧H'=((950,cB l2 c2)::sH d (dU k a n b) (cB l c))++H) ∨
   (tX k n b l2 P = -1∧¬ (fR d k a n (bM l2 (fN P))).1=0∧r=iv (fR d k a n (bM l2 (fN P))).1∧H'=((950,cB l2 c2)::sH (fR d k a n (bM l2 (fN P))).2 (dU k a n true) (cB l c))++H) ∨
   (tX k n b l2 P = -1∧(fR d k a n (bM l2 (fN P))).1=0∧r=iv 0∧∃ l' c',fI l' c'∧gX l'∧l'.length≤l.length+l2.length∧(∀ x,eN l' x=vC (eN l) l2 (fN P) x)∧H'=((950,cB l2 c2)::sH (fR d k a n (bM l2 (fN P))).2 (dU k a (n+dD (bM l2 (fN P))) false) (cB l' c'))++H)):=by
 refine(aK.frameQ (K8 h k a n b l c l2 c2 P hk ha hn hm hst hnd hst2 hnd2 hl2 hP hsz) hs.sub (HQ _ _ _ _ _ _ _ _ _) (by simp;exact⟨rfl,rfl⟩) ?_).mono ?_
 ·rintro r K (⟨_,_,rfl⟩|⟨_,_,_,rfl⟩|⟨_,_,_,l',c',_,_,_,_,rfl⟩) id hid;all_goals exact .inl (aBe hid)
 rintro r H' ⟨K,(⟨h1,rfl,rfl⟩|⟨h1,h2,rfl,rfl⟩|⟨h1,h2,rfl,l',c',q1,q2,q3,q4,rfl⟩),rfl⟩
 ·exact .inl ⟨h1,rfl,rfl⟩
 ·exact .inr (.inl ⟨h1,h2,rfl,rfl⟩)
 exact .inr (.inr ⟨h1,h2,rfl,l',c',q1,q2,q3,q4,rfl⟩)
theorem aCz {d:DSt} {N m:Nat} (h:DInv d N m) (k a n:Nat) (l:cN) (c:Nat) (hk:k < 4000) (hkN:2*k+2≤N) (ha:a < 2) (hn:n≤k) (hm:m≤10) (hst:fI l c) (hl:l.length < 1099511627776) (hsz:(bM l []).length < 100000000000) (H:aE) (hs:lZ H (sH d (dU k a n false) (cB l c))) :
  aK Tryz.prog 21 [.ref 1100 0 0 0] H (fun r H'=>(k < dD (cE l)∧r=iv 21∧H'=sH d (dU k a n false) (cB l c)++H)∨(dD (cE l)≤k∧r=iv (uB d k a (cE l)).1∧∃ a' n',a' < 2∧n'≤k∧((uB d k a (cE l)).1=0→a'=0∧n'=dD (cE l))∧H'=sH (uB d k a (cE l)).2 (dU k a' n' (!decide ((uB d k a (cE l)).1=0))) (cB l c)++H)):=by
 refine(aK.frameQ (OV h k a n l c hk hkN ha hn hm hst hl hsz) hs.sub (tD _ _ _ _ _ _ _) (by simp;rfl) ?_).mono ?_
 ·rintro r K (⟨_,_,rfl⟩|⟨_,_,a',n',_,_,_,rfl⟩) id hid;all_goals exact .inl (LY hid)
 rintro r H' ⟨K,(⟨h1,rfl,rfl⟩|⟨h1,rfl,a',n',q1,q2,q3,rfl⟩),rfl⟩
 ·exact .inl ⟨h1,rfl,rfl⟩
 exact .inr ⟨h1,rfl,a',n',q1,q2,q3,rfl⟩
theorem aAI (d:DSt) (k a n:Nat) (l:cN) (c:Nat):aK Tryz.prog 21 [.ref 1100 0 0 0] (sH d (dU k a n true) (cB l c)) (fun r H'=>r=iv 12∧H'=sH d (dU k a n true) (cB l c)):=by
 refine Bd aH1 rfl aHF<|Sr<|Dd aR<|Zz<|Sq<|aJ<|Sr<|Dd aB<|Dd (by exact bR rfl dR rfl rfl rfl rfl)<|Da ?_;refine Cn ?_ ?_<;>intro hc1
 ·cases hc1
 refine Sr<|Dd aB<|Dd dY<|Dd (cI mE)<|Dd (cW cK)<|Da ?_;refine Cn ?_ ?_<;>intro hc2
 ·refine Sr<|Dd aR<|Zz<|aH ?_;refine bI (H':=(sH d (dU k a n true) (cB l c))) (.inr rfl) rfl (aI rfl) (Fin.wk (by(simp;done)) (Hc (aM _ _ rfl rfl rfl)<|Hc (aG _ _)<|Hc (aD _ _ _)<|Hc (aP _ _)<|Hc (cF rfl rfl)<|Hc (aU _ _ _)<|trivial) ⟨rfl,rfl,rfl,rfl,rfl,rfl,trivial⟩) ?_;exact Qq
 cases hc2
theorem YE (l2:cN) (c2:Nat) (d:DSt) (k a n:Nat) (l:cN) (c:Nat) (P:List ByteArray):aK Tryz.prog 14 [.ref 1100 0 0 0,.mp 950 0,.pv (aX P)] ((950,cB l2 c2)::sH d (dU k a n true) (cB l c)) (fun r H'=>r=iv 12∧H'=(950,cB l2 c2)::sH d (dU k a n true) (cB l c)):=by
 refine Bd CG rfl yQ<|Sr<|Dd aR<|Zz<|Sq<|aJ<|Sr<|Dd aB<|Dd (by exact bR rfl dR rfl rfl rfl rfl)<|Da ?_;refine Cn ?_ ?_<;>intro hc1
 ·cases hc1
 refine Sr<|Dd aB<|Dd dY<|Dd (cI mE)<|Dd (cW cK)<|Da ?_;refine Cn ?_ ?_<;>intro hc2
 ·refine Sr<|Dd aR<|Zz<|aH ?_;refine bI (H':=((950,cB l2 c2)::sH d (dU k a n true) (cB l c))) (.inr rfl) rfl (aI rfl) (Fin.wk (by(simp;done)) (Hc (aU _ _ _)<|Hc (aM _ _ rfl rfl rfl)<|Hc (aG _ _)<|Hc (aD _ _ _)<|Hc (aP _ _)<|Hc (cF rfl rfl)<|Hc (aU _ _ _)<|trivial) ⟨rfl,rfl,rfl,rfl,rfl,rfl,rfl,trivial⟩) ?_;exact Qq
 cases hc2
theorem YD (l2:cN) (c2:Nat) (d:DSt) (k a n:Nat) (l:cN) (c:Nat) (P:List ByteArray) (H:aE) (hs:lZ H ((950,cB l2 c2)::sH d (dU k a n true) (cB l c))):aK Tryz.prog 14 [.ref 1100 0 0 0,.mp 950 0,.pv (aX P)] H (fun r H'=>r=iv 12∧H'=H) :=aK.frameS (YE l2 c2 d k a n l c P) hs.sub (HQ _ _ _ _ _ _ _ _ _) (by simp;exact⟨rfl,rfl⟩)
theorem aAy {d:DSt} {N k a n:Nat} (hs:DOk d) (hN:d.cells.length=N) (hb:2+a*k+n≤N) (hn:n≤100) {x v:ByteArray} (h:OA d k a n x=some v):x.size≤5000∧v.size≤5000:=by
 rw [OA] at h;obtain ⟨t,ht,h⟩:=NM _ h;obtain ⟨c,hc,rfl⟩:=List.mem_map.1 ht;have hl:=BM (k:=k) (a:=a) hs n (fun i hi=>by omega) n (aHx _);have hcs:c.size≤(PO d k a n).length:=uH hc;have hct:c.size≤5000:=by
  have e:PO d k a n=pI d k a n:=rfl;rw [e] at hcs;omega
 obtain ⟨q,hq⟩:=uT h;have hm:=MT (W:=(F1 c.data.toList).drop 1) (M:=5000) (fun y hy=>by
  have h1:=uH (List.mem_of_mem_drop hy);rw [dP] at h1;omega) _ _ hq
 exact hm
end Go.Proofs.YtmkgeogoojcciaaGreatDoor
namespace Go.Abs
inductive GChain (Stp:Oper→bZ→aE→Rec→Prop) (N:Nat):List Oper→bZ→aE→List Rec→bZ→aE→Prop
 | nil {E:bZ} {H:aE}:GChain Stp N [] E H [] E H
 | cons {o:Oper} {rest:List Oper} {E E':bZ} {H H':aE} {r:Rec} {rs:List Rec} (h:Stp o E H r) (hd:jZ N o.dst=true) (hr:GChain Stp N rest (jD E o.dst r.v) (r.W++H) rs E' H') :
   GChain Stp N (o::rest) E H (r::rs) E' H'
theorem GChain.spec {Stp:Oper→bZ→aE→Rec→Prop} {N:Nat} {E:bZ} {H:aE} {rest:List Oper} {E':bZ} {H':aE} {rs:List Rec} (h:GChain Stp N rest E H rs E' H'):rs.length=rest.length ∧
  (∀ k x,(List.zipWith Ent2.mk rest rs)[k]?=some x→jZ N x.o.dst=true∧∃ Ek Hk,(∀ t,Ek.get t=oC E (List.zipWith Ent2.mk rest rs) (fun _=>true) k t)∧(∀ id,Hk.get id=oB H (List.zipWith Ent2.mk rest rs) (fun _=>true) k id)∧Stp x.o Ek Hk x.r) ∧
  (∀ t,E'.get t=oC E (List.zipWith Ent2.mk rest rs) (fun _=>true) rest.length t)∧(∀ id,H'.get id=oB H (List.zipWith Ent2.mk rest rs) (fun _=>true) rest.length id):=by
 induction h with
 | nil=>exact⟨rfl,by simp,fun t=>rfl,fun id=>rfl⟩
 | @cons o rest E E' H H' r rs hs hd hr ih =>
  obtain ⟨h1,h2,h3,h4⟩:=ih;have shE:∀ (l:List Ent2) k t,oC (jD E o.dst r.v) l (fun _=>true) k t=oC E (⟨o,r⟩::l) (fun _=>true) (k+1) t:=by
   intro l k t
   induction k with
   | zero =>
    simp only [oC,List.getElem?_cons_zero];cases hdst:o.dst with
    | none=>simp [jD]
    | some d =>
     simp only [jD];by_cases e:d=t
     ·subst e;simp [bZ.get_cons_same]
     rw [bZ.get_cons_other _ _ e];simp [e]
   | succ k ih =>
    rw [oC,oC];simp only [List.getElem?_cons_succ];cases l[k]? with
    | none=>exact ih
    | some x=>simp only [ih]
  have shH:∀ (l:List Ent2) k id,oB (r.W++H) l (fun _=>true) k id=oB H (⟨o,r⟩::l) (fun _=>true) (k+1) id:=by
   intro l k id
   induction k with
   | zero =>
    simp only [oB,List.getElem?_cons_zero,uY];cases hw:r.W.get id<;>simp
   | succ k ih =>
    rw [oB,oB];simp only [List.getElem?_cons_succ];cases l[k]? with
    | none=>exact ih
    | some x=>simp only [ih]
  refine⟨by simp [h1],?_,?_,?_⟩
  ·intro k x hx;cases k with
   | zero =>
    simp at hx;subst hx;exact⟨hd,E,H,fun t=>rfl,fun id=>rfl,hs⟩
   | succ k =>
    simp at hx;obtain ⟨g0,Ek,Hk,g1,g2,g3⟩:=h2 k x (by simpa using hx);exact⟨g0,Ek,Hk,fun t=>(g1 t).trans (shE _ k t),fun id=>(g2 id).trans (shH _ k id),g3⟩
  ·intro t;rw [h3 t,shE];rfl
  intro id;rw [h4 id,shH];rfl
theorem XM {P:Program} {N:Nat} {o:Oper} {E E1:bZ} {H1:aE} {l:List Nat} {R:AV→aE→Prop} (h:TU P N o (restr E l) H1 R) (hE:∀ t,t∈l→E1.get t=E.get t):TU P N o E1 H1 R:=by intro a w I ι hd hs hr he K Q hk;refine h a w I ι hd hs hr (fun t v ht=>?_) K Q hk;have hp:=JU (E:=E) (l:=l) _ (hY ht);exact he t v ((hE t hp.2).trans hp.1)
def aCV (P:Program) (N:Nat) (ops:List Oper) {Ω:Type} (rc:Ω→Rec) (Rc:Option (List Nat)) (o:Oper) (E:bZ) (H:aE):Prop :=o.guard=none∧∀ H1:aE,(∀ id,rR Rc id=true→H1.get id=H.get id)→TU P N o (restr E (eY ops o)) H1 (fun v H'=>∃ ω,v=(rc ω).v∧H'=(rc ω).W++H1)
def aFb (P:Program) (N:Nat) (ops:List Oper) {Ω:Type} (rc:Ω→Rec) (dc:Nat) (Rc:Option (List Nat)) (ω:Ω) (o:Oper) (E:bZ) (H:aE) (r:Rec):Prop :=DStep P N ops o E H r∨(o.dst=some dc∧r=rc ω∧aCV P N ops rc Rc o E H)
theorem DF {P:Program} {N:Nat} {ops l:List Oper} {X:Oper→bZ→aE→Rec→Prop} {E E':bZ} {H H':aE} {rs:List Rec} (h:DChain P N ops l E H rs E' H'):GChain (fun o E H r=>DStep P N ops o E H r∨X o E H r) N l E H rs E' H':=by
 induction h with
 | nil=>exact .nil
 | cons h hd _ ih=>exact .cons (.inl h) hd ih
theorem S5 {S:Oper→bZ→aE→Rec→Prop} {N:Nat} {l m:List Oper} {E E1 E2:bZ} {H H1 H2:aE} {r1 r2:List Rec} (h:GChain S N l E H r1 E1 H1) (h2:GChain S N m E1 H1 r2 E2 H2):GChain S N (l++m) E H (r1++r2) E2 H2:=by
 induction h with
 | nil=>exact h2
 | cons h hd _ ih=>exact .cons h hd (ih h2)
def uC:List Bool→List Rec→List Rec→Prop
 | [],_,_=>True
 | true::m,x::a,y::b=>x=y∧uC m a b
 | false::m,_::a,_::b=>uC m a b
 | _::_,_,_=>False
theorem zJ:∀ {m:List Bool} {a b:List Rec} {k:Nat},uC m a b→m.getD k false=true→a[k]?=b[k]?
 | [],a,b,k,_,h=>by simp at h
 | true::m,x::a,y::b,0,h,_=>by rw [List.getElem?_cons_zero,List.getElem?_cons_zero,h.1]
 | true::m,x::a,y::b,k+1,h,h2=>by
  rw [List.getElem?_cons_succ,List.getElem?_cons_succ];exact zJ h.2 (by simpa using h2)
 | false::m,x::a,y::b,0,h,h2=>by simp at h2
 | false::m,x::a,y::b,k+1,h,h2=>by
  rw [List.getElem?_cons_succ,List.getElem?_cons_succ];exact zJ (m:=m) h (by simpa using h2)
 | true::m,[],b,k,h,_=>h.elim
 | true::m,x::a,[],k,h,_=>h.elim
 | false::m,[],b,k,h,_=>h.elim
 | false::m,x::a,[],k,h,_=>h.elim
def aAl (T c dc:Nat) (mask:List Bool) (ops:List Oper):Bool :=((List.range ops.length).all fun i=>Nat.beq i c||(match ops[i]? with|some o=>(match o.dst with|some d=>!Nat.beq d dc|none=>true)|none=>true))&&((List.range T).all fun i=>Nat.ble i c||(((NR ops []).getD i 0).testBit c||mask.getD (i - (c+1)) false))
theorem YW {P:Program} {G0:aE} {N id:Nat} {Q:Exit→bZ→aE→Prop} {ops:Array Oper} {E Ec:bZ} {H Hc:aE} {Ω:Type} (ω0:Ω) (T c dc:Nat) (mask:List Bool) (rc:Ω→Rec) (Rc:Option (List Nat)) {mB:List Rec} {rsB:Ω→List Rec} {E':Ω→bZ} {H':Ω→aE} {oc:Oper} (hm:P.follows .mixedOrders=true) (hT:T≤ops.size) (hcT:c < T) (hoc:ops.toList[c]?=some oc) (hdc:oc.dst=some dc) (hdN:Nat.blt dc N=true) (hRc:∀ ω,(rc ω).R=Rc)
  (hA:DChain P N ops.toList (ops.toList.take c) E H mB Ec Hc) (hN:aCV P N ops.toList rc Rc oc Ec Hc)
  (hB:∀ ω,DChain P N ops.toList ((ops.toList.take T).drop (c+1)) ((dc,(rc ω).v)::Ec) ((rc ω).W++Hc) (rsB ω) (E' ω) (H' ω))
  (hok:∀ ω,uR T ops.toList (mB++rc ω::rsB ω)=true) (hmid:aAl T c dc mask ops.toList=true) (hsame:∀ ω ω',uC mask (rsB ω) (rsB ω'))
  (hL:∀ ω,AL P G0 N ops (fun E H=>Q .normal E H) (ops.toList.drop T) (E' ω) (H' ω)):iF P G0 N (.region id ops true) Q E H:=by
 intro G hG a w hs ro hro;have hnd0:ro=none∨ops.toList.all Oper.noDefer=true:=hro;refine wpIn_region_any hm ?_;have hTl:(ops.toList.take T).length=T:=by rw [aIF,Array.length_toList];omega
 have hsplit:ops.toList.take T=ops.toList.take c++oc::(ops.toList.take T).drop (c+1):=by
  have h1:(ops.toList.take T)[c]?=some oc:=by rw [List.getElem?_take_of_lt hcT];exact hoc
  obtain ⟨h2,h3⟩:=aHv.1 h1;have h4:(ops.toList.take T).drop c=oc::(ops.toList.take T).drop (c+1):=by rw [List.drop_eq_getElem_cons h2,h3]
  have h5:(ops.toList.take T).take c=ops.toList.take c:=by rw [List.take_take,Nat.min_eq_left (by omega)]
  rw [← h4,← h5,List.take_append_drop]
 have hch:∀ ω,GChain (aFb P N ops.toList rc dc Rc ω) N (ops.toList.take T) E H (mB++rc ω::rsB ω) (E' ω) (H' ω):=fun ω=>by
  rw [hsplit];refine S5 (DF hA) (.cons (.inr ⟨hdc,rfl,hN⟩) (by rw [hdc];exact hdN) ?_);rw [hdc];exact DF (hB ω)
 have hspec:=fun ω=>(hch ω).spec;obtain ⟨l,hl⟩:∃ l:Ω→List Ent2,l=fun ω=>List.zipWith Ent2.mk (ops.toList.take T) (mB++rc ω::rsB ω):=⟨_,rfl⟩;have hlω:∀ ω,l ω=List.zipWith Ent2.mk (ops.toList.take T) (mB++rc ω::rsB ω):=fun ω=>by rw [hl]
 have hlen:∀ ω,(mB++rc ω::rsB ω).length=T:=fun ω=>(hspec ω).1.trans hTl;have hlA:mB.length=c:=by
  have h1:=(DF (X:=fun _ _ _ _=>False) hA).spec.1;rw [h1,aIF,Array.length_toList];omega
 have hst:∀ ω k x,(l ω)[k]?=some x→jZ N x.o.dst=true∧∃ Ek Hk,(∀ t,Ek.get t=oC E (l ω) (fun _=>true) k t)∧(∀ id,Hk.get id=oB H (l ω) (fun _=>true) k id)∧aFb P N ops.toList rc dc Rc ω x.o Ek Hk x.r:=fun ω=>by
  rw [hlω ω];exact(hspec ω).2.1
 have hE':∀ ω t,(E' ω).get t=oC E (l ω) (fun _=>true) T t:=fun ω t=>by
  have h1:=(hspec ω).2.2.1 t;rw [hTl,← hlω ω] at h1;exact h1
 have hH':∀ ω id,(H' ω).get id=oB H (l ω) (fun _=>true) T id:=fun ω id=>by
  have h1:=(hspec ω).2.2.2 id;rw [hTl,← hlω ω] at h1;exact h1
 have hokp:∀ ω,(xS 0 ops.toList=true∧xR ops.toList (NR ops.toList []) 0 [] (l ω)=true)∧((List.range ops.toList.length).all fun j=>Nat.blt j T||(List.range j).all fun i=>((NR ops.toList []).getD j 0).testBit i)=true:=fun ω=>by
  have h1:=hok ω;rw [uR,← hlω ω,aIA,aIA] at h1;exact h1
 have hok1:=(hokp ω0).1.1;have hok2:=fun ω=>(hokp ω).1.2;have hok3:=(hokp ω0).2;have hndB:ro=none∨(ops.toList.drop T).all Oper.noDefer=true:=hnd0.imp (fun h=>h) fun h=>List.all_eq_true.2 fun x hx=>List.all_eq_true.1 h x (List.mem_of_mem_drop hx);have hll:∀ ω,(l ω).length=T:=fun ω=>by rw [hlω ω,List.length_zipWith,hlen ω,hTl];omega
 have hlo:∀ (ω:Ω) (i:Nat) (x:Ent2),(l ω)[i]?=some x→ops.toList[i]?=some x.o:=by
  intro ω i x hx;have hiT:i < T:=by have:=(aHv.1 hx).1;rw [hll] at this;exact this
  rw [hlω ω,List.getElem?_zipWith,List.getElem?_take_of_lt hiT] at hx;cases e1:ops.toList[i]? with
  | none=>simp [e1] at hx
  | some o =>
   cases e2:(mB++rc ω::rsB ω)[i]? with
   | none=>simp only [e1,e2] at hx;cases hx
   | some r=>simp only [e1,e2] at hx;cases hx;rfl
 rw [aAl,aIA] at hmid;have hmid1:∀ i o,ops.toList[i]?=some o→o.dst=some dc→i=c:=fun i o hi hd=>by
  have h1:=List.all_eq_true.1 hmid.1 i (List.mem_range.2 (aHv.1 hi).1);rw [hi,Bool.or_eq_true] at h1;rcases h1 with h1|h1
  ·exact Nat.eq_of_beq_eq_true h1
  simp [hd] at h1
 have hind:∀ (ω ω':Ω) (n:Nat),n≠c→¬ Pre ops.toList c n→(l ω)[n]?=(l ω')[n]?:=fun ω ω' n hnc hnp=>by
  by_cases hnT:n < T
  ·have h1:(mB++rc ω::rsB ω)[n]?=(mB++rc ω'::rsB ω')[n]?:=by
    by_cases hlt:n < c
    ·rw [List.getElem?_append_left (by omega),List.getElem?_append_left (by omega)]
    obtain ⟨k,rfl⟩:∃ k,n=c+(k+1):=⟨n - c - 1,by omega⟩;rw [List.getElem?_append_right (by omega),List.getElem?_append_right (by omega),hlA,Nat.add_sub_cancel_left,List.getElem?_cons_succ,List.getElem?_cons_succ];have h2:=List.all_eq_true.1 hmid.2 (c+(k+1)) (List.mem_range.2 hnT);rw [Bool.or_eq_true,Bool.or_eq_true] at h2;rcases h2 with h2|h2|h2
    ·rw [Nat.ble_eq] at h2;omega
    ·exact absurd (qN ops.toList [] [] rfl rfl (by simp) _ _ h2) hnp
    rw [show c+(k+1) - (c+1)=k by omega] at h2;exact zJ (hsame ω ω') h2
   rw [hlω ω,hlω ω',List.getElem?_zipWith,List.getElem?_zipWith,h1]
  rw [List.getElem?_eq_none (by rw [hll];omega),List.getElem?_eq_none (by rw [hll];omega)]
 have hcl:∀ ω,(l ω)[c]?=some ⟨oc,rc ω⟩:=fun ω=>by
  rw [hlω ω,List.getElem?_zipWith,List.getElem?_take_of_lt hcT,hoc,List.getElem?_append_right (by omega),hlA,Nat.sub_self];rfl
 have hedge:=uQ ops.toList 0 hok1;have hbef:∀ (ω:Ω) (i j:Nat) (x y:Ent2),i < j→(l ω)[i]?=some x→(l ω)[j]?=some y→gD ops.toList x y=true→Pre ops.toList i j:=fun ω i j x y hij hx hy hcl =>
  qN ops.toList [] [] rfl rfl (by simp) j i (uP (l ω) [] (hok2 ω) i j hij (aII _) x y hx hy hcl)
 have htail:∀ (j:Nat),T≤j→j < ops.size→∀ i,i < j→Pre ops.toList i j:=by
  intro j hj hjs i hi;have h1:=List.all_eq_true.1 hok3 j (List.mem_range.2 (by rw [Array.length_toList];exact hjs));rw [Bool.or_eq_true] at h1;rcases h1 with h1|h1
  ·rw [Nat.blt_eq] at h1;omega
  exact qN ops.toList [] [] rfl rfl (by simp) j i (List.all_eq_true.1 h1 i (List.mem_range.2 hi))
 have hedge0:∀ j o,ops.toList[j]?=some o→∀ e∈o.after.toList,Region.binds .any e=true→e.on < j:=fun j o h e he hb=>by have:=hedge j o h e he hb;omega
 have fin:∀ (ω:Ω) (fuel:Nat) (listed:Array Bool) (a:Act) (w:World) (E1:bZ) (H1:aE),listed.size=ops.size→ops.size≤T+fuel→(∀ j,T≤j→listed.getD j false=false)→(∀ i,i < T→listed.getD i false=true)→St G N E1 H1 a w→(∀ t,E1.get t=oC E (l ω) (fun i=>listed.getD i false) T t)→(∀ j,H1.get j=oB H (l ω) (fun i=>listed.getD i false) T j) →
   wpAnyIn (RF ro) 0 P .any ops (fun e a w=>∃ E H,Q e E H∧St G N E H a w) fuel listed a w:=by
  intro ω fuel listed a w E1 H1 hsz hfu hnoB hall hst1 hE1 hH1;refine Q0 hedge0 htail fuel T listed a w (aHx _) hsz (fun i hi=>?_) (by omega) ?_
  ·by_cases h:i < T
   ·rw [hall i h,decide_eq_true h]
   rw [hnoB i (by omega),decide_eq_false h]
  refine hL ω G hG a w (cC.get (G0:=G0) (fun t=>?_) (fun j=>?_) G hG N a w hst1) ro hndB _ (fun E H a w hK hst=>⟨E,H,hK,hst⟩)
  ·rw [hE' ω t,hE1 t];exact(kD (E:=E) T T (aHx _) (fun j x hj _=>⟨fun hlt=>hall j hlt,fun h1 h2=>by omega⟩)).symm
  rw [hH' ω j,hH1 j];exact(kC (H:=H) T T (aHx _) (fun i x hi _=>⟨fun hlt=>hall i hlt,fun h1 h2=>by omega⟩)).symm
 have cnt:∀ (fuel:Nat) (listed:Array Bool),listed.size=ops.size→(∀ j,T≤j→listed.getD j false=false)→((List.range ops.size).filter fun i=>!listed.getD i true).length≤fuel→ops.size≤T+fuel:=by
  intro fuel listed hsz hnoB hcnt;have h1:(List.range' T (ops.size - T)).length≤((List.range ops.size).filter fun i=>!listed.getD i true).length:=by
   refine List.Nodup.length_le_of_subset List.nodup_range' fun j hj=>?_;rw [List.mem_range'_1] at hj;have hjl:j < listed.size:=by omega
   have h2:=hnoB j (by omega);refine List.mem_filter.2 ⟨List.mem_range.2 (by omega),?_⟩;simp [Array.getD,hjl] at h2 ⊢;exact h2
  rw [List.length_range'] at h1;omega
 have main:∀ (fuel:Nat) (ω:Ω) (listed:Array Bool) (a:Act) (w:World) (E1:bZ) (H1:aE),listed.size=ops.size→((List.range ops.size).filter fun i=>!listed.getD i true).length≤fuel →
   jA ops.toList (fun i=>listed.getD i false)→(∀ j,T≤j→listed.getD j false=false)→St G N E1 H1 a w→(∀ t,E1.get t=oC E (l ω) (fun i=>listed.getD i false) T t)→(∀ j,H1.get j=oB H (l ω) (fun i=>listed.getD i false) T j) →
   wpAnyIn (RF ro) 0 P .any ops (fun e a w=>∃ E H,Q e E H∧St G N E H a w) fuel listed a w:=by
  intro fuel
  induction fuel with
  | zero =>
   intro ω listed a w E1 H1 hsz hcnt hdown hnoB hst1 hE1 hH1;have hall:∀ i,i < T→listed.getD i false=true:=by
    intro i hi;have hnil:=List.eq_nil_of_length_eq_zero (Nat.le_zero.1 hcnt);have:=List.filter_eq_nil_iff.1 hnil i (List.mem_range.2 (by omega));have hi':i < listed.size:=by omega
    simp [Array.getD,hi'] at this ⊢;exact this
   exact fin ω 0 listed a w E1 H1 hsz (cnt 0 listed hsz hnoB hcnt) hnoB hall hst1 hE1 hH1
  | succ fuel ih =>
   intro ω listed a w E1 H1 hsz hcnt hdown hnoB hst1 hE1 hH1;by_cases hallT:∀ i,i < T→listed.getD i false=true
   ·exact fin ω _ listed a w E1 H1 hsz (cnt _ listed hsz hnoB hcnt) hnoB hallT hst1 hE1 hH1
   refine⟨fun hnil=>?_,fun i hi=>?_⟩
   ·-- nothing is left
    exfalso;have hall:∀ i,i < ops.size→listed.getD i false=true:=by
     intro i
     induction i using Nat.strongRecOn with
     | _ i ihi =>
      intro hi;refine Classical.byContradiction fun hno=>?_;have hi':i < listed.size:=by omega
      have hno':listed.getD i true=false:=by
       simp [Array.getD,hi'] at hno ⊢;exact hno
      have hlt:i < ops.toList.length:=by simpa using hi
      have hr:i∈Region.ready .any ops listed:=by
       unfold Region.ready;refine List.mem_filter.2 ⟨List.mem_range.2 hi,?_⟩;have ho:ops[i]?=some ops[i]:=Array.getElem?_eq_getElem hi;simp only [hno',Bool.not_false,Bool.true_and,ho,Option.map_some,Option.getD_some];rw [Array.all_eq_true'];intro e he;cases hb:Region.binds .any e with
       | false=>simp
       | true =>
        have hon:=hedge i ops[i] (by simp [ho]) e (by simpa using he) hb;simp only [Bool.not_true,Bool.false_or];exact ihi e.on (by omega) (by omega)
      rw [hnil] at hr;cases hr
    exact hallT fun i hi=>hall i (by omega)
   have hi1:=List.mem_filter.1 hi;have hilt:i < ops.size:=List.mem_range.1 hi1.1;have hi':i < listed.size:=by omega
   have ho:ops[i]?=some ops[i]:=Array.getElem?_eq_getElem hilt;have hi2:=hi1.2;simp only [ho,Option.map_some,Option.getD_some,aIA] at hi2;obtain ⟨hnl,hpreds⟩:=hi2;have hnl':listed.getD i false=false:=by
    simp [Array.getD,hi'] at hnl ⊢;exact hnl
   have hpre:∀ e∈(ops[i]).after.toList,Region.binds .any e=true→listed.getD e.on false=true:=by
    intro e he hb;have:=(Array.all_eq_true'.1 hpreds) e (by simpa using he)
    simpa [hb] using this
   have hiT:i < T:=by
    refine Classical.byContradiction fun hno=>hallT fun q hq=>?_;exact htail i (by omega) hilt q (by omega) _ hdown ops[i] (by simp [ho]) hpre
   have core:∀ ω:Ω,(∀ t,E1.get t=oC E (l ω) (fun i=>listed.getD i false) T t)→(∀ j,H1.get j=oB H (l ω) (fun i=>listed.getD i false) T j)→∀ x,(l ω)[i]?=some x →
     x.o=ops[i]∧jZ N x.o.dst=true∧∃ Ek Hk,aFb P N ops.toList rc dc Rc ω x.o Ek Hk x.r∧(∀ t,t∈eY ops.toList x.o→E1.get t=Ek.get t)∧(∀ k,rR x.r.R k=true→H1.get k=Hk.get k) ∧
     ∀ (a':Act) (w':World),St G N (jD E1 x.o.dst x.r.v) (x.r.W++H1) a' w'→wpAnyIn (RF ro) 0 P .any ops (fun e a w=>∃ E H,Q e E H∧St G N E H a w) fuel (listed.setIfInBounds i true) a' w':=by
    intro ω hE1 hH1 x hx;have hxo:x.o=ops[i]:=by
     have:=hlo ω i x hx;simp [ho] at this;exact this.symm
    obtain ⟨hdok,Ek,Hk,hEk,hHk,hdst⟩:=hst ω i x hx;have hbefore:∀ (j:Nat) (y:Ent2),j < i→(l ω)[j]?=some y→gD ops.toList y x=true→listed.getD j false=true:=by
     intro j y hj hy hcl;exact hbef ω j i y x hj hy hx hcl _ hdown ops[i] (by simp [ho]) hpre
    have hbehind:∀ (j:Nat) (y:Ent2),i < j→(l ω)[j]?=some y→gD ops.toList x y=true→listed.getD j false=false:=by
     intro j y hj hy hcl;cases hjl:listed.getD j false with
     | false=>rfl
     | true =>
      have hjlt:j < (l ω).length:=(aHv.1 hy).1;have hjo:ops.toList[j]?=some y.o:=hlo ω j y hy;have:=hbef ω i j x y hj hx hy hcl _ hdown y.o hjo (fun e he hb=>hdown j y.o hjo hjl e he hb);rw [hnl'] at this;cases this
    have agreeE:∀ t,(∀ (j:Nat) (y:Ent2),(l ω)[j]?=some y→y.o.dst=some t→(j < i→gD ops.toList y x=true)∧(i < j→gD ops.toList x y=true))→E1.get t=Ek.get t:=by
     intro t ht;rw [hE1 t,hEk t];refine kD (E:=E) T i (by omega) (fun j y hj hd=>⟨fun hlt=>hbefore j y hlt hj ((ht j y hj hd).1 hlt),fun h1 h2=>?_⟩);by_cases e:j=i
     ·subst e;exact hnl'
     exact hbehind j y (by omega) hj ((ht j y hj hd).2 (by omega))
    have agreeH:∀ k,(∀ (j:Nat) (y:Ent2),(l ω)[j]?=some y→(y.r.W.get k).isSome=true→(j < i→gD ops.toList y x=true)∧(i < j→gD ops.toList x y=true))→H1.get k=Hk.get k:=by
     intro k hk;rw [hH1 k,hHk k];refine kC (H:=H) T i (by omega) (fun j y hj hd=>⟨fun hlt=>hbefore j y hlt hj ((hk j y hj hd).1 hlt),fun h1 h2=>?_⟩);by_cases e:j=i
     ·subst e;exact hnl'
     exact hbehind j y (by omega) hj ((hk j y hj hd).2 (by omega))
    have hlooks:∀ t,t∈eY ops.toList x.o→E1.get t=Ek.get t:=fun t ht =>
     agreeE t fun j y hj hd=>⟨fun _=>pN hd ht,fun _=>pM hd ht⟩
    have hreads:∀ k,rR x.r.R k=true→H1.get k=Hk.get k:=fun k hk =>
     agreeH k fun j y hj hd=>⟨fun _=>DK hd hk,fun _=>DL hd hk⟩
    have hlist:∀ j,(listed.setIfInBounds i true).getD j false=if j=i then true else listed.getD j false:=by
     intro j;by_cases e:j=i
     ·subst e;simp [Array.getD,hi']
     simp only [Array.getD_eq_getD_getElem?,Array.getElem?_setIfInBounds_ne (Ne.symm e),e,if_false]
    have hdown':jA ops.toList (fun j=>(listed.setIfInBounds i true).getD j false):=by
     intro j o hj hjl e he hb;simp only [hlist] at hjl ⊢;by_cases ej:j=i
     ·subst ej;have:o=ops[j]:=by simp [ho] at hj;exact hj.symm
      subst this;have:=hpre e he hb;simp [this]
     simp only [ej,if_false] at hjl;have:=hdown j o hj hjl e he hb;simp only at this;simp [this]
    have hcnt':((List.range ops.size).filter fun j=>!(listed.setIfInBounds i true).getD j true).length≤fuel:=by
     have hlist':∀ j,(listed.setIfInBounds i true).getD j true=if j=i then true else listed.getD j true:=by
      intro j;by_cases e:j=i
      ·subst e;simp [Array.getD,hi']
      simp only [Array.getD_eq_getD_getElem?,Array.getElem?_setIfInBounds_ne (Ne.symm e),e,if_false]
     have h1:((List.range ops.size).filter fun j=>!(listed.setIfInBounds i true).getD j true)=((List.range ops.size).filter fun j=>!listed.getD j true).filter fun j=>j != i:=by
      rw [List.filter_filter];refine List.filter_congr fun j _=>?_;rw [hlist'];by_cases e:j=i<;>simp [e]
     rw [h1];have h2:=List.length_filter_lt_length_iff_exists (p:=fun j=>j != i) (l:=(List.range ops.size).filter fun j=>!listed.getD j true) |>.2 ⟨i,List.mem_filter.2 ⟨hi1.1,by simpa using hnl⟩,by simp⟩;omega
    have next:∀ (a':Act) (w':World),St G N (jD E1 x.o.dst x.r.v) (x.r.W++H1) a' w'→wpAnyIn (RF ro) 0 P .any ops (fun e a w=>∃ E H,Q e E H∧St G N E H a w) fuel (listed.setIfInBounds i true) a' w':=by
     intro a' w' hst';refine ih ω _ a' w' _ _ (by simp [hsz]) hcnt' hdown' (fun j hj=>by rw [hlist,aHp (by omega)];exact hnoB j hj) hst' (fun t=>?_) (fun k=>?_)
     ·-- slots
      by_cases hd:x.o.dst=some t
      ·have e1:bZ.get (jD E1 x.o.dst x.r.v) t=some x.r.v:=by rw [hd];simp [jD,bZ.get_cons_same]
       rw [e1];have e2:=kD (E:=E) (l:=l ω) (S:=fun j=>(listed.setIfInBounds i true).getD j false) (t:=t) T (i+1) (by omega) (fun j y hj hyd=>⟨fun hlt=>?_,fun h1 h2=>?_⟩)
       ·rw [e2,oC,hx];simp [hd]
       ·simp only [hlist];by_cases ej:j=i
        ·simp [ej]
        simp only [ej,if_false];exact hbefore j y (by omega) hj (kG hyd hd)
       simp only [hlist];rw [aHp (by omega)];exact hbehind j y (by omega) hj (kG hd hyd)
      have e1:bZ.get (jD E1 x.o.dst x.r.v) t=E1.get t:=by
       cases hdd:x.o.dst with
       | none=>rfl
       | some d=>exact bZ.get_cons_other _ _ (fun e=>hd (by rw [hdd,e]))
      rw [e1,hE1 t];have:∀ n,oC E (l ω) (fun i=>listed.getD i false) n t=oC E (l ω) (fun j=>(listed.setIfInBounds i true).getD j false) n t:=by
       intro n
       induction n with
       | zero=>rfl
       | succ n ihn =>
        rw [oC,oC];cases hn:(l ω)[n]? with
        | none=>exact ihn
        | some y =>
         simp only;by_cases en:n=i
         ·subst en;rw [hx] at hn;cases hn;rw [aHp (fun h=>hd h.2),aHp (fun h=>hd h.2)];exact ihn
         have hS:(listed.setIfInBounds i true).getD n false=listed.getD n false:=by rw [hlist,aHp en]
         rw [hS,ihn]
      exact this _
     rw [uY];by_cases hd:(x.r.W.get k).isSome=true
     ·obtain ⟨ob,hob⟩:=Option.isSome_iff_exists.1 hd;rw [hob];have e2:=kC (H:=H) (l:=l ω) (S:=fun j=>(listed.setIfInBounds i true).getD j false) (id:=k) T (i+1) (by omega) (fun j y hj hyd=>⟨fun hlt=>?_,fun h1 h2=>?_⟩)
      ·rw [e2,oB,hx];simp [hob]
      ·simp only [hlist];by_cases ej:j=i
       ·simp [ej]
       simp only [ej,if_false];exact hbefore j y (by omega) hj (qM hyd hd)
      simp only [hlist];rw [aHp (by omega)];exact hbehind j y (by omega) hj (qM hd hyd)
     have hnone:x.r.W.get k=none:=by simpa using hd
     rw [hnone];simp only;rw [hH1 k];have:∀ n,oB H (l ω) (fun i=>listed.getD i false) n k=oB H (l ω) (fun j=>(listed.setIfInBounds i true).getD j false) n k:=by
      intro n
      induction n with
      | zero=>rfl
      | succ n ihn =>
       rw [oB,oB];cases hn:(l ω)[n]? with
       | none=>exact ihn
       | some y =>
        simp only;by_cases en:n=i
        ·subst en;rw [hx] at hn;cases hn;rw [aHp (fun h=>hd h.2),aHp (fun h=>hd h.2)];exact ihn
        have hS:(listed.setIfInBounds i true).getD n false=listed.getD n false:=by rw [hlist,aHp en]
        rw [hS,ihn]
     exact this _
    exact⟨hxo,hdok,Ek,Hk,hdst,hlooks,hreads,next⟩
   unfold wpOpIn;simp only [ho];have hil:i < (l ω).length:=by rw [hll];exact hiT
   obtain ⟨x,hx⟩:∃ x,(l ω)[i]?=some x:=⟨_,aHw hil⟩;obtain ⟨hxo,hdok,Ek,Hk,hdst,hlooks,hreads,next⟩:=core ω hE1 hH1 x hx;rw [hxo] at hdst hlooks hdok next;have hgE:∀ (j:Nat) (want:Bool) (t:Tmp) (b:Bool),(ops[i]).guard=some (j,want)→gV ops.toList j=some t→Ek.get t=some (.pv (.bool b))→yielded ops a.tmps j=some b:=by
    intro j want t b hg hj hb;have hmem:t∈eY ops.toList ops[i]:=by simp [eY,hg,hj]
    exact nJ (E:=E1) hj ((hlooks t hmem).trans hb) hst1.rel.choose_spec.choose_spec.2.2
   have hnd:ro=none∨(ops[i]).noDefer=true:=hnd0.imp (fun h=>h) fun h=>List.all_eq_true.1 h _ (by simp);rcases hdst with hdst|⟨hdo,hxr,hgn,hNs⟩
   ·cases hdst with
    | plain hg h =>
     have hw:Region.wanted ops[i] (yielded ops a.tmps)=true:=by simp [Region.wanted,hg]
     simp only [hw,if_true];refine hst1.op hdok ((h H1 hreads).restr hlooks) ?_ hnd;rintro r H2 a' w' ⟨rfl,rfl⟩ hs';exact next a' w' hs'
    | on j want t b hg hj hb hw h =>
     have hy:=hgE j want t b hg hj hb;have hw:Region.wanted ops[i] (yielded ops a.tmps)=true:=by simp [Region.wanted,hg,hy,hw]
     simp only [hw,if_true];refine hst1.op hdok ((h H1 hreads).restr hlooks) ?_ hnd;rintro r H2 a' w' ⟨rfl,rfl⟩ hs';exact next a' w' hs'
    | off j want t x' hg hj hb hw hv hW =>
     have hmem:t∈eY ops.toList ops[i]:=by simp [eY,hg,hj]
     have hw:Region.wanted ops[i] (yielded ops a.tmps)=false :=
      yB (E:=E1) hg hj ((hlooks t hmem).trans hb) hw hst1.rel.choose_spec.choose_spec.2.2
     simp only [hw,Bool.false_eq_true,if_false];refine⟨fun _ _=>trivial,?_⟩;refine next _ w ?_;obtain ⟨I,ι,hr,hst2,he⟩:=hst1.rel;rw [hv,hW];refine⟨?_,?_,I,ι,hr,hst2,jE.put hr (Step.refl _ _ _ _) he jE.skip (by rw [hst1.size];exact hdok)⟩
     ·rw [jO];exact hst1.defers
     have:=hst1.size;cases (ops[i]).dst<;>simpa [Act.put] using this
   have hic:i=c:=hmid1 i ops[i] (by simp [ho]) hdo;have hRx:x.r.R=Rc:=by rw [hxr,hRc]
   rw [hRx] at hreads;have hw:Region.wanted ops[i] (yielded ops a.tmps)=true:=by simp [Region.wanted,hgn]
   simp only [hw,if_true];refine hst1.op hdok (XM (hNs H1 hreads) hlooks) ?_ hnd;rintro r H2 a' w' ⟨ω',rfl,rfl⟩ hs';have hsm:∀ n,listed.getD n false=true→(l ω)[n]?=(l ω')[n]?:=by
    intro n hn;by_cases hnT:n < T
    ·refine hind ω ω' n (fun e=>?_) fun hp=>?_
     ·rw [e,← hic,hnl'] at hn;cases hn
     have ho2:ops.toList[n]?=some (ops[n]'(by omega)):=by simp
     have h3:=hp (fun q=>listed.getD q false) hdown _ ho2 (fun e he hb=>hdown n _ ho2 hn e he hb);have h4:listed.getD c false=true:=h3;rw [← hic,hnl'] at h4;cases h4
    rw [hnoB n (by omega)] at hn;cases hn
   have hE2:∀ t,E1.get t=oC E (l ω') (fun i=>listed.getD i false) T t:=fun t=>by
    rw [hE1 t];have:∀ n,oC E (l ω) (fun i=>listed.getD i false) n t=oC E (l ω') (fun i=>listed.getD i false) n t:=by
     intro n
     induction n with
     | zero=>rfl
     | succ n ihn =>
      rw [oC,oC];cases hn:listed.getD n false with
      | true=>rw [hsm n hn,ihn]
      | false=>cases (l ω)[n]?<;>cases (l ω')[n]?<;>first|exact ihn|(simp only [Bool.false_eq_true,false_and,if_false];exact ihn)
    exact this T
   have hH2:∀ k,H1.get k=oB H (l ω') (fun i=>listed.getD i false) T k:=fun k=>by
    rw [hH1 k];have:∀ n,oB H (l ω) (fun i=>listed.getD i false) n k=oB H (l ω') (fun i=>listed.getD i false) n k:=by
     intro n
     induction n with
     | zero=>rfl
     | succ n ihn =>
      rw [oB,oB];cases hn:listed.getD n false with
      | true=>rw [hsm n hn,ihn]
      | false=>cases (l ω)[n]?<;>cases (l ω')[n]?<;>first|exact ihn|(simp only [Bool.false_eq_true,false_and,if_false];exact ihn)
    exact this T
   have hx':=hcl ω';rw [← hic] at hx';obtain ⟨hxo',_,_,_,_,_,_,next'⟩:=core ω' hE2 hH2 _ hx';have hoi:oc=ops[i]:=hxo';rw [← hoi] at hs';exact next' a' w' hs'
 have hs':St G N E H a {w with drawn:=w.drawn+1}:=by
  obtain ⟨I,ι,hr,hst2,he⟩:=hs.rel;obtain ⟨k2,k3⟩:=hr.drawn (w':={w with drawn:=w.drawn+1}) rfl rfl rfl rfl;exact⟨hs.defers,hs.size,I,ι,k2,hst2.trans k3,fun t v ht=>let ⟨c,h1,h2⟩:=he t v ht;⟨c,h1,h2.mono hr k3⟩⟩
 refine main ops.size ω0 (Array.replicate ops.size false) a _ E H (by simp) (by
  have:=List.length_filter_le (fun i=>!(Array.replicate ops.size false).getD i true) (List.range ops.size)
  simpa using this) (fun j o hj hjl=>by simp [Array.getD] at hjl) (fun j _=>by simp [Array.getD]) hs' (fun t=>?_) (fun k=>?_)
 ·have:∀ n,oC E (l ω0) (fun i=>(Array.replicate ops.size false).getD i false) n t=E.get t:=by
   intro n
   induction n with
   | zero=>rfl
   | succ n ihn =>
    rw [oC];cases (l ω0)[n]? with
    | none=>exact ihn
    | some y =>
     have hf:(Array.replicate ops.size false).getD n false=false:=by simp [Array.getD]
     simp only [hf,Bool.false_eq_true,false_and,if_false];exact ihn
  exact(this _).symm
 have:∀ n,oB H (l ω0) (fun i=>(Array.replicate ops.size false).getD i false) n k=H.get k:=by
  intro n
  induction n with
  | zero=>rfl
  | succ n ihn =>
   rw [oB];cases (l ω0)[n]? with
   | none=>exact ihn
   | some y =>
    have hf:(Array.replicate ops.size false).getD n false=false:=by simp [Array.getD]
    simp only [hf,Bool.false_eq_true,false_and,if_false];exact ihn
 exact(this _).symm
theorem QX {P:Program} {G0:aE} {N:Nat} {Q:Exit→bZ→aE→Prop} {E:bZ} {H:aE} {x y u z:Code} {α:Type} (S:α→bZ×aE) (J:α→Prop)
  (h:iF P G0 N x (sG (iF P G0 N y (sG (iF P G0 N u (sG (fun E1 H1=>∃ a,J a∧cC G0 E1 H1 (S a).1 (S a).2) Q)) Q)) Q) E H) (h':∀ a,J a→iF P G0 N z Q (S a).1 (S a).2):iF P G0 N (.seq x (.seq y (.seq u z))) Q E H :=
 B7 (h.mono fun e E1 H1 q=>by
  cases e with
  | normal =>
   refine B7 (iF.mono (show iF P G0 N y _ E1 H1 from q) fun e E2 H2 q2=>?_);cases e with
   | normal=>exact fZ S J (show iF P G0 N u _ E2 H2 from q2) h'
   | _=>exact q2
  | _=>exact q)
theorem TJ {P:Program} {G0:aE} {N id:Nat} {Q:Exit→bZ→aE→Prop} {ops:Array Oper} {E:bZ} {H:aE} {Ω:Type} (ω0:Ω) (T c c1 t1 dc:Nat) (mask:List Bool) (rc:Ω→Rec) (Rc:Option (List Nat)) {oc:Oper} (hm:P.follows .mixedOrders=true) (hT:T≤ops.size) (hcT:c < T) (hc1:c1=c+1) (ht1:T - (c+1)=t1) (hoc:ops.toList[c]?=some oc) (hdc:oc.dst=some dc) (hdN:Nat.blt dc N=true) (hRc:∀ ω,(rc ω).R=Rc) (hmid:aAl T c dc mask ops.toList=true)
  (h:DC P N ops.toList (ops.toList.take c) E H (fun mB Ec Hc=>aCV P N ops.toList rc Rc oc Ec Hc∧∃ rs0:List Rec,∀ ω,DC P N ops.toList ((ops.toList.drop c1).take t1) ((dc,(rc ω).v)::Ec) ((rc ω).W++Hc) (fun rsB E' H'=>uR T ops.toList (mB++rc ω::rsB)=true∧uC mask rs0 rsB∧AL P G0 N ops (fun E H=>Q .normal E H) (ops.toList.drop T) E' H'))):iF P G0 N (.region id ops true) Q E H:=by
 obtain ⟨mB,Ec,Hc,h1,h2,rs0,h3⟩:=h;have hdt:(ops.toList.drop c1).take t1=(ops.toList.take T).drop (c+1):=by rw [hc1,← ht1,List.drop_take]
 simp only [hdt] at h3;have h4:∀ ω,∃ x:List Rec×bZ×aE,DChain P N ops.toList ((ops.toList.take T).drop (c+1)) ((dc,(rc ω).v)::Ec) ((rc ω).W++Hc) x.1 x.2.1 x.2.2∧uR T ops.toList (mB++rc ω::x.1)=true∧uC mask rs0 x.1∧AL P G0 N ops (fun E H=>Q .normal E H) (ops.toList.drop T) x.2.1 x.2.2:=fun ω=>by
  obtain ⟨rsB,E',H',q1,q2,q3,q4⟩:=h3 ω;exact⟨(rsB,E',H'),q1,q2,q3,q4⟩
 obtain ⟨f,hf⟩:=Classical.axiomOfChoice h4;have hss:∀ (m:List Bool) (a b c:List Rec),uC m a b→uC m a c→uC m b c:=by
  intro m
  induction m with
  | nil=>intro a b c _ _;trivial
  | cons x m ih =>
   intro a b c h1 h2;cases x<;>cases a<;>cases b<;>cases c<;>first|exact h1.elim|exact h2.elim|skip
   ·exact ih _ _ _ h1 h2
   exact⟨h1.1.symm.trans h2.1,ih _ _ _ h1.2 h2.2⟩
 exact YW ω0 T c dc mask rc Rc (rsB:=fun ω=>(f ω).1) (E':=fun ω=>(f ω).2.1) (H':=fun ω=>(f ω).2.2) hm hT hcT hoc hdc hdN hRc h1 h2 (fun ω=>(hf ω).1) (fun ω=>(hf ω).2.1) hmid (fun ω ω'=>hss _ _ _ _ (hf ω).2.2.1 (hf ω').2.2.1) (fun ω=>(hf ω).2.2.2)
end Go.Abs
namespace Go.Proofs.YtmkgeogoojcciaaGreatDoor
open Go.Proofs.Tryz
open Go.Abs Go.Lib
inductive MSt where
 | nil
 | dead (d:DSt) (x:RX) (e:Int)
 | live (d:DSt) (x:RX) (a n:Nat) (b:Bool) (l:cN) (c a' n':Nat)
def nX:MSt→AV
 | .nil=>.pv .nilp
 | _=>.ref 1000 0 0 0
def nW:MSt→AV
 | .nil=>.pv .nilp
 | _=>.ref 2100 0 0 0
def nU:MSt→AV
 | .live _ _ _ _ _ _ _ _ _=>.ref 1100 0 0 0
 | _=>.pv .nilp
def nV:MSt→AV
 | .live _ _ _ _ _ _ _ _ _=>.ref 1200 0 0 0
 | _=>.pv .nilp
def mT:MSt→Int
 | .nil=>1
 | .dead _ _ e=>e
 | .live _ _ _ _ _ _ _ _ _=>0
def nR (k:Nat):MSt→aE
 | .nil=>[]
 | .dead d x _=>bN d++jW d x
 | .live d x a n b l c a' n'=>sH d (dU k a n b) (cB l c)++vM d x (uL k a' n' (prs l) b)
structure LvJ (N k i:Nat) (d:DSt) (a n:Nat) (b:Bool) (l:cN) (c a' n':Nat):Prop where
 st:fI l c
 nd:gX l
 len:l.length≤4600+6*i
 sz:∀ x v,eN l x=some v→x.size≤5000∧v.size≤5000
 on:b=false→OnD d N∧a < 2∧n≤k∧a'=a∧n'=n
 dn:b=true→jA d N
 n4:4≤N
def MsW (N:Nat):MSt→Prop
 | .nil=>True
 | .dead d x e=>(OnD d N∨jA d N)∧cY d∧1≤N
 | .live d x a n b l c a' n'=>(OnD d N∨jA d N)∧cY d∧1≤N
def N7 (N k i:Nat):MSt→Prop
 | .nil=>True
 | .dead d x e=>(OnD d N∨jA d N)∧cY d∧1≤N
 | .live d x a n b l c a' n'=>LvJ N k i d a n b l c a' n'∧cY d
theorem LvJ.or {N k i:Nat} {d:DSt} {a n:Nat} {b:Bool} {l:cN} {c a' n':Nat} (h:LvJ N k i d a n b l c a' n'):OnD d N∨jA d N:=by
 cases b with
 | false=>exact .inl (h.on rfl).1
 | true=>exact .inr (h.dn rfl)
theorem LvJ.mono {N k i:Nat} {d:DSt} {a n:Nat} {b:Bool} {l:cN} {c a' n':Nat} (h:LvJ N k i d a n b l c a' n'):LvJ N k (i+1) d a n b l c a' n':=⟨h.st,h.nd,by have:=h.len;omega,h.sz,h.on,h.dn,h.n4⟩
theorem N7.w {N k i:Nat}:∀ {st:MSt},N7 N k i st→MsW N st
 | .nil,_=>trivial
 | .dead _ _ _,h=>h
 | .live _ _ _ _ _ _ _ _ _,h=>⟨h.1.or,h.2,by have:=h.1.n4;omega⟩
theorem N7.up {N k i:Nat}:∀ {st:MSt},N7 N k i st→N7 N k (i+1) st
 | .nil,_=>trivial
 | .dead _ _ _,h=>h
 | .live _ _ _ _ _ _ _ _ _,h=>⟨h.1.mono,h.2⟩
theorem aFJ {d d2:DSt} {N k i:Nat} {l:cN} {c:Nat} (h:OnD d N∨jA d N) (hN:N≤200) (hk:k=(N - 2) / 2) (hd:OnD d2 N) (h4:4≤N) (q1:fI l c) (q2:gX l) (q3:l.length≤46*rQ d k) (q4:∀ x,eN l x=OA d k (sV d k) (rQ d k) x):LvJ N k i d2 (sV d k) (rQ d k) false l c (sV d k) (rQ d k):=by
 have hb:=xQ d k;have hm:sV d k*k≤1*k:=Nat.mul_le_mul (by omega) (aHx _);refine⟨q1,q2,by omega,fun x v hx=>?_,fun _=>⟨hd,hb.1,hb.2,rfl,rfl⟩,fun e=>(by cases e),h4⟩;rw [q4] at hx;rcases h with h|h
 ·exact aAy h.inv.ok h.inv.n (by omega) (by omega) hx
 exact aAy h.inv.ok h.inv.n (by omega) (by omega) hx
theorem aCF {d:DSt} {N:Nat} (h:OnD d N∨jA d N) (a w b:Int) (ha:a≤9223372036854775807):OnD (pL d a w b) N∨jA (pL d a w b) N:=by
 rcases h with h|h
 ·refine .inl ⟨VH h.inv a w b ha,?_⟩;rw [pL,aHp (by rw [h.off];decide)]
  split<;>exact h.off
 rw [pL,aHq h.off];exact .inr h
theorem QY {d:DSt} {N:Nat} (a w b:Int) (ha:a≤9223372036854775807):(OnD d N→OnD (pL d a w b) N)∧(jA d N→jA (pL d a w b) N):=by
 refine⟨fun h=>⟨VH h.inv a w b ha,?_⟩,fun h=>?_⟩
 ·rw [pL,aHp (by rw [h.off];decide)]
  split<;>exact h.off
 rw [pL,aHq h.off];exact h
theorem NG {d:DSt} {N:Nat} (h:OnD d N∨jA d N) (w b:Int):OnD (oH (fV d w b)) N:=by
 rcases h with h|h
 ·exact(ED (tP h.inv w b)).on
 exact(ED (tP h.inv w b)).on
theorem RZ {d:DSt} {N:Nat} (h:OnD d N∨jA d N) (k p m:Int):OnD (rC d k p m) N∨jA (rC d k p m) N:=by
 have e1:(rC d k p m).off=d.off:=by rw [rC];split<;>rfl
 have e2:(rC d k p m).arm=d.arm:=by rw [rC];split<;>rfl
 rcases h with h|h
 ·exact .inl ⟨VG h.inv k p m,by rw [e1];exact h.off⟩
 exact .inr ⟨VG h.inv k p m,by rw [e1];exact h.off,by rw [e2];exact h.na⟩
theorem ME {d:DSt} (h:cY d) (a w b:Int):cY (pL d a w b):=by
 unfold pL
 split
 ·exact h
 split
 ·next h0=>intro a' w' b' he;cases he;exact h0
 exact fun a w b h=>(mV h).elim
theorem C2 (d:DSt):cY (oH d):=fun a w b h=>(mV h).elim
theorem MD {d:DSt} (h:cY d) (k p m:Int):cY (rC d k p m):=by
 unfold rC
 split<;>exact fun a w b e=>h a w b e
theorem UV {d:DSt} {N:Nat} (h:OnD d N∨jA d N):DOk d:=by
 rcases h with h|h
 ·exact h.inv.ok
 exact h.inv.ok
theorem F9 {f:FuncId} {d d':DSt} {x x':RX} {r0:AV} (h:aK Tryz.prog f [.ref 1100 0 0 0] (dA d x) (fun r H'=>r=r0∧H'=dA d' x')) (H:aE) (hs:lZ H (jW d x)):aK Tryz.prog f [.ref 2100 0 0 0] H (fun r H'=>r=jN IF r0∧H'=jW d' x'++H):=R5 (args:=[.ref 2100 0 0 0]) h rfl H hs (by simp;rfl)
theorem R6 {f:FuncId} {a b:Int} {d d':DSt} {x x':RX} {r0:AV} (h:aK Tryz.prog f [.ref 1100 0 0 0,iv a,iv b] (dA d x) (fun r H'=>r=r0∧H'=dA d' x')) (H:aE) (hs:lZ H (jW d x)):aK Tryz.prog f [.ref 2100 0 0 0,iv a,iv b] H (fun r H'=>r=jN IF r0∧H'=jW d' x'++H):=R5 (args:=[.ref 2100 0 0 0,iv a,iv b]) h rfl H hs (by simp;rfl)
theorem CX {f:FuncId} {a b c:Int} {d d':DSt} {x x':RX} {r0:AV} (h:aK Tryz.prog f [.ref 1100 0 0 0,iv a,iv b,iv c] (dA d x) (fun r H'=>r=r0∧H'=dA d' x')) (H:aE) (hs:lZ H (jW d x)):aK Tryz.prog f [.ref 2100 0 0 0,iv a,iv b,iv c] H (fun r H'=>r=jN IF r0∧H'=jW d' x'++H):=R5 (args:=[.ref 2100 0 0 0,iv a,iv b,iv c]) h rfl H hs (by simp;rfl)
theorem TB {d:DSt} {x:RX} {N k i:Nat} (h:OnD d N∨jA d N) (hp:cY d) (hN0:1≤N) (hk:k=(N - 2) / 2) (hN:N≤200) (e:¬ (nT d N k).1=0):N7 N k i (.dead (nT d N k).2 x (nT d N k).1):=by
 refine⟨?_,US hp N k,hN0⟩;rcases aAh h hk (by omega)with⟨h1,_⟩|⟨_,h1⟩
 ·exact absurd h1 e
 exact h1
theorem SY {d:DSt} {x:RX} {N k i:Nat} {l:cN} {c:Nat} (h:OnD d N∨jA d N) (hp:cY d) (hk:k=(N - 2) / 2) (hN:N≤200) (e:(nT d N k).1=0) (q1:fI l c) (q2:gX l) (q3:l.length≤46*rQ d k) (q4:∀ x,eN l x=OA d k (sV d k) (rQ d k) x):N7 N k i (.live (nT d N k).2 x (sV d k) (rQ d k) false l c (sV d k) (rQ d k)):=by
 rcases aAh h hk (by omega)with⟨_,h1,h2⟩|⟨h1,_⟩
 ·exact⟨aFJ h hN hk h1 h2 q1 q2 q3 q4,US hp N k⟩
 exact absurd e h1
theorem SW (hhd:∀ H,aK Tryz.prog 10 [] H (fun r H'=>r=bv true∧H'=H)) (z:Int) (l:List GOp) (hl:l.length < 1000000000) (hs:∀ x∈l,aFz x) (ha:∀ x∈l,x.a≤9223372036854775807) :
  aK Tryz.prog 8 [iv z,.pv (oQ l)] [] (fun r H'=>r=bv true∧H'=[]):=by
 have hml:(l.map BZ).length=l.length:=aHr _;have hfw:=fun H=>aGI l H (by omega) (fun x hx=>by have:=hs x hx;exact⟨by have:=this.1;omega,by have:=this.2.1;omega,this.2.2⟩);have n23:∀ z:Int,AV.pv (.bool (!decide (z=z)))=bv false:=fun z=>by rw [decide_eq_true rfl];rfl
 have nss:∀ s:ByteArray,AV.pv (.bool (!decide (s=s)))=bv false:=fun s=>by rw [decide_eq_true rfl];rfl
 refine Bd func8 rfl ntmps8<|Sr<|Dd aR<|Zz<|Sr<|Dd (by exact aA rfl rfl call10 rfl (hhd _))<|Dd aR<|Zz<|Sq<|Sq ?_;refine cQ (t:=21) (n:=8) (X:=decide (120 < z)||!D9 l) ?_ ?_
 ·all_goals refine Dd aB ?_
  all_goals refine Dd yP<|Dm ?_
  all_goals refine Sp 17 (fun h17=>?_) fun h17=>?_
  all_goals try contradiction
  all_goals first|refine Fo<|Fo<|Fo ?_|refine On aB<|On (by exact aA rfl rfl call11 rfl (hfw _))<|On pY ?_
  all_goals refine Dd cX<|Zz ?_
  all_goals(exact⟨⟨_,rfl,by(rw [h17];rfl)⟩,rfl,rfl,rfl⟩)
 refine Cn ?_ ?_<;>intro hc1
 ·exact Sr<|Dd aB<|Dd aR<|Zz<|aH<|Rt<|Qq
 have hq:=hc1;rw [aIN,aHz,Bool.not_eq_false'] at hq;obtain ⟨hl12,hfx⟩:=XZ hq.2;obtain ⟨N,hN⟩:∃ N,N=z.toNat:=⟨_,rfl⟩;obtain ⟨k,hk⟩:∃ k,k=(N - 2) / 2:=⟨_,rfl⟩;have hN1:N≤120:=by omega
 have hnew:z < 1∨(z=(N:Int)∧1≤N):=by omega
 clear hN;refine aF ?_;refine QX (fun(st:MSt)=>([(1,.pv (oQ l)),(5,bv true),(6,nX st),(7,nW st),(8,nU st),(9,iv (mT st)),(10,nV st),(11,iv (mT st))],nR k st)) (fun st=>N7 N k 0 st) ?_ ?_
 ·rcases Or.symm hnew with⟨hz,hN0⟩|hz
  ·subst hz;have hnew2:=aAs N (by omega) (by omega);have hrnw:=fun H g0 g1 g2=>aFv N (by omega) (by omega) H g0 g1 g2;obtain ⟨d0,hd0⟩:∃ d,d=pK N:=⟨_,rfl⟩;obtain ⟨x0,hx0⟩:∃ x:RX,x=⟨N,0,0,0,0⟩:=⟨_,rfl⟩;have hD0:OnD d0 N:=by rw [hd0];exact(B5 (by omega) (by omega)).on
   have hp0:cY d0:=by rw [hd0];exact fun a w b h=>by cases h
   rw [← hd0] at hnew2 hrnw;rw [← hx0] at hrnw;clear hd0 hx0;refine Rg<|Dd aB<|Dd (by exact aA rfl rfl aCi rfl (hnew2))<|Dd aB<|Dd (by exact aA rfl rfl call31 rfl (hrnw _ rfl rfl rfl))<|Dd aR<|Da ?_;refine iF.ent (E':=[(1,.pv (oQ l)),(5,bv true),(6,.ref 1000 0 0 0),(7,.ref 2100 0 0 0)]) (H':=bN d0++jW d0 x0) (cC.wk (Eb<|Eb<|Ea<|Ea<|trivial) (Hc (aM _ _ rfl rfl rfl)<|Hc (aG _ _)<|Hc (aD _ _ _)<|Hc (aP _ _)<|Hc (by(simp;exact⟨rfl,rfl⟩))<|Hb<|Hc (aD _ _ _)<|trivial) trivial) ?_;refine Rg<|Dm ?_;refine gC rfl rfl (aA rfl rfl rP rfl (SH (.inl hD0) hk _ ⟨rfl,rfl,rfl,rfl,trivial⟩ rfl rfl)) ?_;rintro _ _ (⟨e1,rfl,rfl⟩|⟨e1,rfl,lm,cm,q1,q2,q3,q4,rfl⟩)
   ·refine Dd aB<|Dd eC<|Dd eC<|Dd aR<|Dd aR<|Zz<|Rg<|Dm ?_;refine gC rfl rfl (aA rfl rfl rO rfl (CR (x:=x0) (.inl hD0) hp0 hk (by omega) _ ⟨rfl,rfl,rfl,trivial⟩ rfl)) ?_;rintro _ _ (⟨e2,rfl,x',rfl⟩|⟨e2,rfl,x',L,p1,p2,rfl⟩)
    ·refine Dd aB<|Dd eC<|Dd eC<|Dd aR<|Da ?_;refine⟨MSt.dead (nT d0 N k).2 x' (nT d0 N k).1,TB (.inl hD0) hp0 hN0 hk (by omega) e1,?_⟩;dsimp only [nX,nW,nU,nV,mT,nR];exact(cC.wk (Eb<|Eb<|Ea<|Ea<|Eb<|Eb<|Eb<|Eb<|trivial) (Hc (aM _ _ rfl rfl rfl)<|Hc (aG _ _)<|Hc (aD _ _ _)<|Hc (aP _ _)<|Hc (by(simp;exact⟨rfl,rfl⟩))<|Hb<|Hc (aD _ _ _)<|trivial) trivial)
    exact absurd e2 e1
   refine Dd aB<|Dd eC<|Dd eC<|Dd aR<|Dd aR<|Zz<|Rg<|Dm ?_;refine gC rfl rfl (aA rfl rfl rO rfl (CR (x:=x0) (.inl hD0) hp0 hk (by omega) _ ⟨rfl,rfl,rfl,trivial⟩ rfl)) ?_;rintro _ _ (⟨e2,rfl,x',rfl⟩|⟨e2,rfl,x',L,p1,p2,rfl⟩)
   ·exact absurd e1 e2
   have hLp:L=prs lm:=C1 p1 q2 fun y=>by rw [p2,q4]
   rw [hLp];refine Dd aB<|Dd eC<|Dd eC<|Dd aR<|Da ?_;refine⟨MSt.live (nT d0 N k).2 x' (sV d0 k) (rQ d0 k) false lm cm (sV d0 k) (rQ d0 k),SY (.inl hD0) hp0 hk (by omega) e1 q1 q2 q3 q4,?_⟩;dsimp only [nX,nW,nU,nV,mT,nR];exact(cC.wk (Eb<|Eb<|Ea<|Ea<|Ea<|Eb<|Ea<|Eb<|trivial) (Hc (aM _ _ rfl rfl rfl)<|Hc (aG _ _)<|Hc (aD _ _ _)<|Hc (aP _ _)<|Hc (by(simp;exact⟨rfl,rfl⟩))<|Hc (aU _ _ _)<|Hc (by(simp;exact⟨rfl,rfl⟩))<|Hb<|Hc (aD _ _ _)<|Ha<|trivial) trivial)
  refine Rg<|Dd aB<|Dd (by exact aA rfl rfl aCi rfl (aDZ z _ (.inl hz)))<|Dd aB<|Dd (by exact aA rfl rfl call31 rfl (WQ z hz _))<|Dd aR<|Dd aR<|Zz<|Rg<|Dd aB<|Dd (by exact aA rfl rfl rP rfl (J6 _))<|Dd aB<|Dd eC<|Dd eC<|Dd aR<|Dd aR<|Zz<|Rg<|Dd aB<|Dd (by exact aA rfl rfl rO rfl (F2 _))<|Dd aB<|Dd eC<|Dd eC<|Dd aR<|Da ?_;refine⟨MSt.nil,trivial,?_⟩;dsimp only [nX,nW,nU,nV,mT,nR];exact Wk
 rintro st0 hJ0;refine Sq<|Sr<|Dd aR<|Zz<|aJ ?_;refine iM (fun(i:Nat) (st:MSt)=>([(1,.pv (oQ l)),(5,bv true),(6,nX st),(7,nW st),(8,nU st),(9,iv (mT st)),(10,nV st),(11,iv (mT st)),(12,iv (i:Int))],nR k st)) (fun i st=>i≤l.length∧N7 N k i st) (fun i st=>l.length - i) 0 st0 ⟨aII _,hJ0⟩ ?_ ?_
 ·exact cC.get' ⟨⟨_,rfl,rfl⟩,⟨_,rfl,rfl⟩,⟨_,rfl,rfl⟩,⟨_,rfl,rfl⟩,⟨_,rfl,rfl⟩,⟨_,rfl,rfl⟩,⟨_,rfl,rfl⟩,⟨_,rfl,rfl⟩,⟨_,rfl,rfl⟩,trivial⟩ (fun j=>rfl)
 clear hnew hJ0 st0;rintro i st ⟨hi,hJ⟩;refine Sq<|Sr<|Dd aB<|Dd aB<|Dd (jY sO)<|Dd cP<|Zz ?_;refine Cn ?_ ?_<;>intro hc2
 ·have hlt:i < l.length:=by have:=aHn hc2;omega
  obtain ⟨x,hx⟩:=aY hlt;have hxm:=aIB hx;have hix:=cV (f:=BZ) hx;obtain ⟨f1,f2,f3,f4⟩:=hfx x hxm;refine aF<|Sq<|aJ ?_;refine fZ (fun(_:Unit)=>([(1,.pv (oQ l)),(5,bv true),(6,nX st),(7,nW st),(8,nU st),(9,iv (mT st)),(10,nV st),(11,iv (mT st)),(12,iv (i:Int))],nR k st)) (fun _=>True) ?_ ?_
  ·cases st with
   | nil =>
    have hsm:=fun H=>qR [] [] H (by decide) (by decide);rw [decide_eq_true rfl] at hsm;refine Sr<|Dd aB<|Dd aB<|Dd (by exact bS.eqv (gB rfl rfl rfl) (n23 _))<|Dd aB<|On aB<|On (by exact dF rfl dR rfl rfl)<|On aB<|On (by exact dF rfl eR rfl rfl)<|On (by exact GJ rfl lS rfl rfl)<|Dd cX<|Dd aB<|On aB<|On (by exact aA rfl rfl CO rfl (oM _))<|On aB<|On (by exact aA rfl rfl CM rfl (rW _))<|On (by exact aA rfl rfl vS rfl (hsm _))<|On pY<|Dd cX<|Zz ?_;refine Cn ?_ ?_<;>intro hc3
    ·cases hc3
    refine aF ?_;refine⟨(),trivial,?_⟩;dsimp only [nX,nW,nU,nV,mT,nR];exact Wk
   | dead d0 x0 e0 =>
    have hsm:=fun H=>qR [] [] H (by decide) (by decide);rw [decide_eq_true rfl] at hsm;refine Sr<|Dd aB<|Dd aB<|Dd (by exact bS.eqv (gB rfl rfl rfl) (n23 _))<|Dd aB<|On aB<|On (by exact dF rfl dR rfl rfl)<|On aB<|On (by exact dF rfl eR rfl rfl)<|On (by exact GJ rfl lS rfl rfl)<|Dd cX<|Dd aB<|On aB<|On (by exact aA rfl rfl CO rfl (oM _))<|On aB<|On (by exact aA rfl rfl CM rfl (rW _))<|On (by exact aA rfl rfl vS rfl (hsm _))<|On pY<|Dd cX<|Zz ?_;refine Cn ?_ ?_<;>intro hc4
    ·cases hc4
    refine aF ?_;refine⟨(),trivial,?_⟩;dsimp only [nX,nW,nU,nV,mT,nR];exact(cC.wk (Eb<|Eb<|Ea<|Ea<|Eb<|Eb<|Eb<|Eb<|Eb<|trivial) (Hc (aM _ _ rfl rfl rfl)<|Hc (aG _ _)<|Hc (aD _ _ _)<|Hc (aP _ _)<|Hc (by(simp;exact⟨rfl,rfl⟩))<|Hb<|Hc (aD _ _ _)<|trivial) trivial)
   | live d0 x0 a n b lm cm a' n' =>
    have hlen:=hJ.1.len;have hcn:=HN d0 k a n b lm cm hJ.1.st hJ.1.nd (by omega);have hli:=fun H hs=>U6 d0 x0 k a' n' (prs lm) b (by rw [oL];omega) H hs;rw [GC] at hli;have hkl:=GW lm;have hsm:=fun H=>qR (oE lm) (oE lm) H (by omega) (by omega);rw [decide_eq_true rfl] at hsm;refine Sr<|Dd aB<|Dd aB<|Dd (by exact bS.eqv (gB rfl rfl rfl) (n23 _))<|Dd aB<|On aB<|On (by exact bR rfl dR rfl rfl rfl rfl)<|On aB<|On (by exact bR rfl eR rfl rfl rfl rfl)<|On (by exact GJ rfl lS rfl rfl)<|Dd cX<|Dd aB<|On aB<|On (by exact aA rfl rfl CO rfl (jL hcn _ ⟨rfl,rfl,rfl,rfl,rfl,rfl,trivial⟩ (by simp;rfl)))<|On aB<|On (by exact aA rfl rfl CM rfl (hli _ ⟨rfl,rfl,rfl,rfl,trivial⟩))<|On (by exact aA rfl rfl vS rfl (hsm _))<|On pY<|Dd cX<|Zz ?_;refine Cn ?_ ?_<;>intro hc5
    ·cases hc5
    refine aF ?_;refine⟨(),trivial,?_⟩;dsimp only [nX,nW,nU,nV,mT,nR];exact(cC.wk (Eb<|Eb<|Ea<|Ea<|Ea<|Eb<|Ea<|Eb<|Eb<|trivial) (Hc (aM _ _ rfl rfl rfl)<|Hc (aG _ _)<|Hc (aD _ _ _)<|Hc (aP _ _)<|Hc (by(simp;exact⟨rfl,rfl⟩))<|Hc (aU _ _ _)<|Hc (by(simp;exact⟨rfl,rfl⟩))<|Hb<|Hc (aD _ _ _)<|Ha<|trivial) trivial)
  rintro _ -;have h13:(nR k st).get 13=none:=by cases st<;>rfl
  refine Sr<|Dd aB<|Dd aB<|Dd (by exact aZ rfl OS rfl rfl (by omega) (by exact aIC _) hix rfl)<|Dd (by exact IN rfl isAgg37 aG0 rfl (by omega) (by simp only [Zl,encStr,encKV,BZ];rfl) rfl)<|Dd (by exact dW (id:=13) rfl aGj rfl h13)<|Uu (vJ aG0)<|Zz ?_;refine fZ (fun(st:MSt)=>([(1,.pv (oQ l)),(5,bv true),(6,nX st),(7,nW st),(8,nU st),(9,iv (mT st)),(10,nV st),(11,iv (mT st)),(12,iv (i:Int)),(13,.ref 13 0 0 0)],(13,opB x)::nR k st)) (fun st=>MsW N st∧((x.kind=3∨x.kind=4∨x.kind=5)∨N7 N k (i+1) st)) ?_ ?_
  ·cases st with
   | live d0 x0 a n b lm cm a' n' =>
    have hor:=hJ.1.or;have hok:=UV hor;have hps:=hJ.2;have hN0:1≤N:=by have:=hJ.1.n4;omega
    have hArm:N7 N k (i+1) (.live (pL d0 x.a x.b x.c) (LK d0 x0 x.a x.b x.c) a n b lm cm a' n'):=⟨⟨hJ.1.st,hJ.1.nd,by have:=hJ.1.len;omega,hJ.1.sz,fun e=>by
     obtain ⟨h1,h2⟩:=hJ.1.on e;exact⟨(QY _ _ _ (ha x hxm)).1 h1,h2⟩,fun e=>(QY _ _ _ (ha x hxm)).2 (hJ.1.dn e),hJ.1.n4⟩,ME hps _ _ _⟩
    cases b with
    | false =>
     obtain ⟨hon,ha2,hn2,hae,hne⟩:=hJ.1.on rfl;have hae:=hae.symm;have hne:=hne.symm;subst hae hne;dsimp only [nX,nW,nU,nV,mT,nR];refine Sr<|Dd (cI AB)<|Dd (cW aL)<|Zz<|aJ<|Sr<|Dd eP<|Da ?_;refine Cn ?_ ?_<;>intro hc6
     ·have hk0:=hc6;have hmk:=lA x.put;have hmkl:(fJ x.put).1.length≤6:=Nat.le_trans (J0 x.put ([],0)) (by show 0+x.put.length≤6;omega);have hmz:∀ p∈(fJ x.put).1,p.1.size≤5000∧p.2.1.size≤5000:=fun p hp=>by have:=f3 _ (wL hp);simp only at this;omega
      have hdz:∀ s∈x.drop,s.size≤5000:=fun s hs=>by have:=f4 s hs;omega
      have hlen:=hJ.1.len;have hcm:=aBc hon.inv k a n false lm cm (fJ x.put).1 (fJ x.put).2 x.drop (by omega) ha2 hn2 (by omega) hJ.1.st hJ.1.nd hmk.1 hmk.2 (by omega) (by omega) (fun hw=>vV hw (by omega) (by omega));have hrc:=aAZ (x:=x0) hon.inv hps k a n false (prs lm) (fJ x.put).1 (fJ x.put).2 x.drop (by omega) ha2 hn2 (by omega) (by rw [oL];omega) hmk.1 hmk.2 (by omega) (by omega) hmz hdz;have hcs:=qL k n (fJ x.put).1 x.drop;have hrg:=gN (fJ x.put).1 x.drop;obtain ⟨l2,hl2⟩:∃ l2,l2=(fJ x.put).1:=⟨_,rfl⟩;obtain ⟨c2,hc2⟩:∃ c2,c2=(fJ x.put).2:=⟨_,rfl⟩;have hmc:=fun H h hl=>wK x.put H h hl;have hmc2:=fun H h hl=>EW x.put H h hl;rw [← hl2,← hc2] at hmk hcm hrc hmc hmc2;rw [← hl2] at hmkl hmz hcs hrg;have hkp:k=(N - 2) / 2:=hk;have hadd:=V2 hon (k:=k) (a:=a) (cn:=n) (t:=bM l2 (fN x.drop)) (by have:=hJ.1.n4;omega) (by omega) ha2;have hp2:=A8 hps k a n (bM l2 (fN x.drop));by_cases c1:tX k n false l2 x.drop = -1
      ·have hle:n+dD (bM l2 (fN x.drop))≤k:=by
        rcases hcs with⟨e,_⟩|⟨_,_,_,e⟩|⟨e,_⟩|⟨e,_⟩
        ·rw [c1] at e;cases e
        ·exact e
        ·rw [c1] at e;cases e
        rw [c1] at e;omega
       have hadd:=hadd hle;by_cases c2':(fR d0 k a n (bM l2 (fN x.drop))).1=0
       ·have hon2:OnD (fR d0 k a n (bM l2 (fN x.drop))).2 N:=by
         rcases hadd with⟨_,h⟩|⟨h,_⟩
         ·exact h
         rw [c2'] at h;cases h
        have hszC:∀ y v,vC (eN lm) l2 (fN x.drop) y=some v→y.size≤5000∧v.size≤5000:=fun y v hy=>by
         rcases QI hy with h|h
         ·obtain ⟨q,hq⟩:=uT h;exact hmz _ hq
         exact hJ.1.sz y v h
        have hw0:=B9 (D:=fN x.drop) hJ.1.st hJ.1.nd hmk.2 (List.Perm.refl l2);obtain ⟨ω0,-⟩:∃ ω0:{q:cN×Nat // fI q.1 q.2∧gX q.1∧q.1.length≤lm.length+l2.length∧∀ y,eN q.1 y=vC (eN lm) l2 (fN x.drop) y},True:=⟨⟨(_,_),hw0⟩,trivial⟩;have hC:∀ (H:aE) (hs:lZ H ((950,cB l2 c2)::sH d0 (dU k a n false) (cB lm cm))),aK Tryz.prog 14 [.ref 1100 0 0 0,.mp 950 0,.pv (aX x.drop)] H (fun r H'=>∃ ω:{q:cN×Nat // fI q.1 q.2∧gX q.1∧q.1.length≤lm.length+l2.length∧∀ y,eN q.1 y=vC (eN lm) l2 (fN x.drop) y},r=iv 0∧H'=((950,cB l2 c2)::sH (fR d0 k a n (bM l2 (fN x.drop))).2 (dU k a (n+dD (bM l2 (fN x.drop))) false) (cB ω.1.1 ω.1.2))++H):=fun H hs=>(hcm H hs).mono (by
         rintro r H' (⟨h1,_⟩|⟨_,h1,_⟩|⟨_,_,rfl,l',c',q1,q2,q3,q4,rfl⟩)
         ·exact absurd c1 h1
         ·exact absurd c2' h1
         exact⟨⟨(l',c'),q1,q2,q3,q4⟩,rfl,rfl⟩)
        obtain ⟨d2,hd2⟩:∃ d2,d2=(fR d0 k a n (bM l2 (fN x.drop))).2:=⟨_,rfl⟩;obtain ⟨n2,hn2e⟩:∃ n2,n2=n+dD (bM l2 (fN x.drop)):=⟨_,rfl⟩;rw [← hd2,← hn2e] at hC hrc;rw [← hd2] at hon2 hp2;have hn2:n2≤k:=by rw [hn2e];exact hle
        refine Sq ?_;refine TJ ω0 13 6 7 6 75 [true,true,true,false,true,true] (fun ω=>⟨iv 0,some [950,1000,1001,1002,1003,1100,1101],(950,cB l2 c2)::sH d2 (dU k a n2 false) (cB ω.1.1 ω.1.2)⟩) (some [950,1000,1001,1002,1003,1100,1101]) follows (aIE rfl) (aIE rfl) rfl rfl rfl rfl rfl (fun _=>rfl) (by kernel_rfl) ?_;refine Cr [] (fun _ _=>aB)<|Cr [13] (fun _ h=>fh lN h)<|Cr [13] (fun _ h=>lh dJ h)<|Cp [950] (fun H1 hH=>by exact aA rfl rfl jC rfl (hmc _ ((hH 950 rfl).trans rfl) (by omega)))<|Cr [13] (fun _ h=>fh mF h)<|Cr [13] (fun _ h=>lh bJ h) ?_;refine cA ⟨⟨rfl,fun H1 hH=>aA rfl rfl kP rfl (hC H1 ⟨(hH 950 rfl).trans rfl,(hH 1000 rfl).trans rfl,(hH 1001 rfl).trans rfl,(hH 1002 rfl).trans rfl,(hH 1003 rfl).trans rfl,(hH 1100 rfl).trans rfl,(hH 1101 rfl).trans rfl,trivial⟩)⟩,?_⟩;refine⟨[⟨.ref 1200 0 0 0,some [],[]⟩,⟨.ref 13 0 0 1,some [13],[]⟩,⟨.pv (hU x.put),some [13],[]⟩,⟨.tup [],none,[]⟩,⟨.ref 13 0 0 2,some [13],[]⟩,⟨.pv (aX x.drop),some [13],[]⟩],fun ω=>?_⟩;refine Cr [] (fun _ _=>aB)<|Cr [13] (fun _ h=>fh lN h)<|Cr [13] (fun _ h=>lh dJ h)<|Cp [960] (fun H1 hH=>by exact aA rfl rfl jC rfl (hmc2 _ ((hH 960 rfl).trans rfl) (by omega)))<|Cr [13] (fun _ h=>fh mF h)<|Cr [13] (fun _ h=>lh bJ h) ?_;refine cA ⟨by kernel_rfl,⟨rfl,rfl,rfl,rfl,rfl,trivial⟩,?_⟩;refine gC rfl rfl (aA rfl rfl CL rfl (hrc _ ⟨rfl,rfl,rfl,rfl,rfl,trivial⟩)) ?_;rintro _ _ (⟨h1,_⟩|⟨_,h1,_⟩|⟨_,_,rfl,x',rfl⟩)
        ·exact absurd c1 h1
        ·exact absurd c2' h1
        have hLp:iA (iI (prs lm) (prs l2)) (fN x.drop)=prs ω.1.1:=C1 (FL (AW (uA hJ.1.nd))) ω.2.2.1 fun y=>by
         rw [wM y (AW (uA hJ.1.nd)),zP y _ (uA hmk.2),oD,oD,ω.2.2.2.2 y,vC]
        rw [hLp];refine Dd (by exact bS.eqv (gB rfl rfl rfl) (n23 _))<|Zz ?_;refine Cn ?_ ?_<;>intro hc7
        ·cases hc7
        refine aF ?_;have hv:LvJ N k (i+1) d2 a n2 false ω.1.1 ω.1.2 a n2:=⟨ω.2.1,ω.2.2.1,by have:=ω.2.2.2.1;have:=hJ.1.len;omega,fun y v hy=>hszC y v (by rw [← ω.2.2.2.2 y];exact hy),fun _=>⟨hon2,ha2,hn2,rfl,rfl⟩,fun e=>(by cases e),hJ.1.n4⟩;have hj:N7 N k (i+1) (.live d2 x' a n2 false ω.1.1 ω.1.2 a n2):=⟨hv,hp2⟩;refine⟨MSt.live d2 x' a n2 false ω.1.1 ω.1.2 a n2,⟨hj.w,.inr hj⟩,?_⟩;dsimp only [nX,nW,nU,nV,mT,nR];exact(cC.wk (Eb<|Eb<|Ea<|Ea<|Ea<|Eb<|Ea<|Eb<|Eb<|Ea<|trivial) (Hb<|Hc (aM _ _ rfl rfl rfl)<|Hc (aG _ _)<|Hc (aD _ _ _)<|Hc (aP _ _)<|Hc (by(simp;exact⟨rfl,rfl⟩))<|Hc (aU _ _ _)<|Hc (by(simp;exact⟨rfl,rfl⟩))<|Hb<|Hc (aD _ _ _)<|Ha<|trivial) trivial)
       have hdn:jA (fR d0 k a n (bM l2 (fN x.drop))).2 N:=by
        rcases hadd with⟨h,_⟩|⟨_,h⟩
        ·exact absurd h c2'
        exact h
       have hB:∀ (H:aE) (hs:lZ H ((950,cB l2 c2)::sH d0 (dU k a n false) (cB lm cm))),aK Tryz.prog 14 [.ref 1100 0 0 0,.mp 950 0,.pv (aX x.drop)] H (fun r H'=>r=iv (fR d0 k a n (bM l2 (fN x.drop))).1∧H'=((950,cB l2 c2)::sH (fR d0 k a n (bM l2 (fN x.drop))).2 (dU k a n true) (cB lm cm))++H):=fun H hs=>(hcm H hs).mono (by
        rintro r H' (⟨h1,_⟩|⟨_,_,h1,h2⟩|⟨_,h1,_⟩)
        ·exact absurd c1 h1
        ·exact⟨h1,h2⟩
        exact absurd h1 c2')
       obtain ⟨d2,hd2⟩:∃ d2,d2=(fR d0 k a n (bM l2 (fN x.drop))).2:=⟨_,rfl⟩;rw [← hd2] at hB hrc hdn hp2;refine Sq ?_;refine mH 13 follows (aIE rfl) ?_;refine Cr [] (fun _ _=>aB)<|Cr [13] (fun _ h=>fh lN h)<|Cr [13] (fun _ h=>lh dJ h)<|Cp [950] (fun H1 hH=>by exact aA rfl rfl jC rfl (hmc _ ((hH 950 rfl).trans rfl) (by omega)))<|Cr [13] (fun _ h=>fh mF h)<|Cr [13] (fun _ h=>lh bJ h) ?_;refine dI (r:=⟨_,some [950,1000,1001,1002,1003,1100,1101],_⟩) (DStep.plain rfl (fun H1 hH=>by exact aA rfl rfl kP rfl (hB _ ⟨(hH 950 rfl).trans rfl,(hH 1000 rfl).trans rfl,(hH 1001 rfl).trans rfl,(hH 1002 rfl).trans rfl,(hH 1003 rfl).trans rfl,(hH 1100 rfl).trans rfl,(hH 1101 rfl).trans rfl,trivial⟩))) rfl ?_;refine Cr [] (fun _ _=>aB)<|Cr [13] (fun _ h=>fh lN h)<|Cr [13] (fun _ h=>lh dJ h)<|Cp [960] (fun H1 hH=>by exact aA rfl rfl jC rfl (hmc2 _ ((hH 960 rfl).trans rfl) (by omega)))<|Cr [13] (fun _ h=>fh mF h)<|Cr [13] (fun _ h=>lh bJ h)<|cA<|Kr ?_;refine gC rfl rfl (aA rfl rfl CL rfl (hrc _ ⟨rfl,rfl,rfl,rfl,rfl,trivial⟩)) ?_;rintro _ _ (⟨h1,_⟩|⟨_,_,rfl,x',rfl⟩|⟨_,h1,_⟩)
       ·exact absurd c1 h1
       ·refine Dd (by exact bS.eqv (gB rfl rfl rfl) (n23 _))<|Zz ?_;refine Cn ?_ ?_<;>intro hc8
        ·(have h:=hc8;simp at h)
        refine aF ?_;have hj:N7 N k (i+1) (.live d2 x' a n true lm cm a n):=⟨⟨hJ.1.st,hJ.1.nd,by have:=hJ.1.len;omega,hJ.1.sz,fun e=>(by cases e),fun _=>hdn,hJ.1.n4⟩,hp2⟩;refine⟨MSt.live d2 x' a n true lm cm a n,⟨hj.w,.inr hj⟩,?_⟩;dsimp only [nX,nW,nU,nV,mT,nR];exact(cC.wk (Eb<|Eb<|Ea<|Ea<|Ea<|Eb<|Ea<|Eb<|Eb<|Ea<|trivial) (Hb<|Hc (aM _ _ rfl rfl rfl)<|Hc (aG _ _)<|Hc (aD _ _ _)<|Hc (aP _ _)<|Hc (by(simp;exact⟨rfl,rfl⟩))<|Hc (aU _ _ _)<|Hc (by(simp;exact⟨rfl,rfl⟩))<|Hb<|Hc (aD _ _ _)<|Ha<|trivial) trivial)
       exact absurd h1 c2'
      have hA:∀ (H:aE) (hs:lZ H ((950,cB l2 c2)::sH d0 (dU k a n false) (cB lm cm))),aK Tryz.prog 14 [.ref 1100 0 0 0,.mp 950 0,.pv (aX x.drop)] H (fun r H'=>r=iv (tX k n false l2 x.drop)∧H'=((950,cB l2 c2)::sH d0 (dU k a n false) (cB lm cm))++H):=fun H hs=>(hcm H hs).mono (by
       rintro r H' (⟨_,h1,h2⟩|⟨h1,_⟩|⟨h1,_⟩)
       ·exact⟨h1,h2⟩
       ·exact absurd h1 c1
       exact absurd h1 c1)
      have hRA:∀ (H:aE) (hs:lZ H (CY l2 c2 d0 x0 (uL k a n (prs lm) false))),aK Tryz.prog 34 [.ref 1200 0 0 0,.mp 960 0,.pv (aX x.drop)] H (fun r H'=>r=iv (tX k n false l2 x.drop)∧H'=CY l2 c2 d0 x0 (uL k a n (prs lm) false)++H):=fun H hs=>(hrc H hs).mono (by
       rintro r H' (⟨_,h1,h2⟩|⟨h1,_⟩|⟨h1,_⟩)
       ·exact⟨h1,h2⟩
       ·exact absurd h1 c1
       exact absurd h1 c1)
      refine Sq<|bF follows<|Cr [] (fun _ _=>aB)<|Cr [13] (fun _ h=>fh lN h)<|Cr [13] (fun _ h=>lh dJ h)<|Cp [950] (fun H1 hH=>by exact aA rfl rfl jC rfl (hmc _ ((hH 950 rfl).trans rfl) (by omega)))<|Cr [13] (fun _ h=>fh mF h)<|Cr [13] (fun _ h=>lh bJ h) ?_;refine dI (r:=⟨_,some [950,1000,1001,1002,1003,1100,1101],_⟩) (DStep.plain rfl (fun H1 hH=>by exact aA rfl rfl kP rfl (hA _ ⟨(hH 950 rfl).trans rfl,(hH 1000 rfl).trans rfl,(hH 1001 rfl).trans rfl,(hH 1002 rfl).trans rfl,(hH 1003 rfl).trans rfl,(hH 1100 rfl).trans rfl,(hH 1101 rfl).trans rfl,trivial⟩))) rfl ?_;refine Cr [] (fun _ _=>aB)<|Cr [13] (fun _ h=>fh lN h)<|Cr [13] (fun _ h=>lh dJ h)<|Cp [960] (fun H1 hH=>by exact aA rfl rfl jC rfl (hmc2 _ ((hH 960 rfl).trans rfl) (by omega)))<|Cr [13] (fun _ h=>fh mF h)<|Cr [13] (fun _ h=>lh bJ h) ?_;refine dI (r:=⟨_,some [960,2100,2101,2102,1200],_⟩) (DStep.plain rfl (fun H1 hH=>by exact aA rfl rfl CL rfl (hRA _ ⟨(hH 960 rfl).trans rfl,(hH 2100 rfl).trans rfl,(hH 2101 rfl).trans rfl,(hH 2102 rfl).trans rfl,(hH 1200 rfl).trans rfl,trivial⟩))) rfl ?_;refine Cr [] (fun H1 hH=>by exact bS.eqv (gB rfl rfl rfl) (n23 _))<|cA<|Kr ?_;refine Cn ?_ ?_<;>intro hc9
      ·cases hc9
      refine aF ?_;refine⟨MSt.live d0 x0 a n false lm cm a n,⟨hJ.w,.inr hJ.up⟩,?_⟩;dsimp only [nX,nW,nU,nV,mT,nR];exact(cC.wk (Eb<|Eb<|Ea<|Ea<|Ea<|Eb<|Ea<|Eb<|Eb<|Ea<|trivial) (Hb<|Hc (aM _ _ rfl rfl rfl)<|Hc (aG _ _)<|Hc (aD _ _ _)<|Hc (aP _ _)<|Hc (by(simp;exact⟨rfl,rfl⟩))<|Hc (aU _ _ _)<|Hc (by(simp;exact⟨rfl,rfl⟩))<|Hb<|Hc (aD _ _ _)<|Ha<|trivial) trivial)
     refine Sr<|Dd eP<|Da ?_;refine Cn ?_ ?_<;>intro hc10
     ·have hsc:=aCz hon.inv k a n lm cm (by omega) (by have:=hJ.1.n4;omega) ha2 hn2 (by omega) hJ.1.st (by have:=hJ.1.len;omega) (by have:=(⟨ha2,hn2,hJ.1.st,hJ.1.nd,by have:=hJ.1.len;omega,hJ.1.sz⟩:Lv k a n lm cm 5000).text (aHx _);omega);have hrs:=aDE (x:=x0) hon.inv hps k a n lm (by omega) ha2 hn2 (by omega) (by have:=hJ.1.len;omega) (⟨ha2,hn2,hJ.1.st,hJ.1.nd,aHx _,hJ.1.sz⟩:Lv k a n lm cm lm.length).prs;have hsA:=fun hw=>aEs hon (k:=k) (a:=a) (w:=cE lm) (by have:=hJ.1.n4;omega) (by omega) hw;have hpA:=aDP hps k a (cE lm);refine Sr<|Dm ?_;refine gC rfl rfl (aA rfl rfl CN rfl (hsc _ ⟨rfl,rfl,rfl,rfl,rfl,rfl,trivial⟩)) ?_;rintro _ _ (⟨w1,rfl,rfl⟩|⟨w1,rfl,a2,n2,q1,q2,q3,rfl⟩)
      ·refine Dm ?_;refine gC rfl rfl (aA rfl rfl N2 rfl (hrs _ ⟨rfl,rfl,rfl,rfl,trivial⟩)) ?_;rintro _ _ (⟨w2,rfl,rfl⟩|⟨w2,_⟩)
       ·refine Dd (by exact bS.eqv (gB rfl rfl rfl) (n23 _))<|Zz ?_;refine Cn ?_ ?_<;>intro hc11
        ·cases hc11
        refine aF ?_;refine⟨MSt.live d0 x0 a n false lm cm a n,⟨hJ.w,.inr hJ.up⟩,?_⟩;dsimp only [nX,nW,nU,nV,mT,nR];exact(cC.wk (Eb<|Eb<|Ea<|Ea<|Ea<|Eb<|Ea<|Eb<|Eb<|Ea<|trivial) (Hb<|Hc (aM _ _ rfl rfl rfl)<|Hc (aG _ _)<|Hc (aD _ _ _)<|Hc (aP _ _)<|Hc (by(simp;exact⟨rfl,rfl⟩))<|Hc (aU _ _ _)<|Hc (by(simp;exact⟨rfl,rfl⟩))<|Hb<|Hc (aD _ _ _)<|Ha<|trivial) trivial)
       omega
      refine Dm ?_;refine gC rfl rfl (aA rfl rfl N2 rfl (hrs _ ⟨rfl,rfl,rfl,rfl,trivial⟩)) ?_;rintro _ _ (⟨w2,_⟩|⟨w2,rfl,x',a3,n3,q4,rfl⟩)
      ·omega
      have hsA:=hsA w1;obtain ⟨d2,hd2⟩:∃ d2,d2=(uB d0 k a (cE lm)).2:=⟨_,rfl⟩;obtain ⟨e2,he2⟩:∃ e2,e2=(uB d0 k a (cE lm)).1:=⟨_,rfl⟩;have hsA:(e2=0∧OnD d2 N)∨(e2=22∧jA d2 N):=by rw [hd2,he2];exact hsA
      rw [← hd2] at hpA;rw [← he2] at q3 q4;rw [← hd2,← he2];clear hd2 he2;refine Dd (by exact bS.eqv (gB rfl rfl rfl) (n23 _))<|Zz ?_;refine Cn ?_ ?_<;>intro hc12
      ·cases hc12
      refine aF ?_;have hv1:(!decide (e2=0))=false→OnD d2 N∧a2 < 2∧n2≤k∧a3=a2∧n3=n2:=fun e=>by
       rcases hsA with⟨h1,h2⟩|⟨h1,h2⟩
       ·obtain ⟨r1,r2⟩:=q3 h1;obtain ⟨r3,r4⟩:=q4 h1;exact⟨h2,q1,q2,by omega,by omega⟩
       rw [h1] at e;cases e
      have hv2:(!decide (e2=0))=true→jA d2 N:=fun e=>by
       rcases hsA with⟨h1,h2⟩|⟨h1,h2⟩
       ·rw [h1] at e;cases e
       exact h2
      have hv:LvJ N k (i+1) d2 a2 n2 (!decide (e2=0)) lm cm a3 n3:=⟨hJ.1.st,hJ.1.nd,by have:=hJ.1.len;omega,hJ.1.sz,hv1,hv2,hJ.1.n4⟩;have hj:N7 N k (i+1) (.live d2 x' a2 n2 (!decide (e2=0)) lm cm a3 n3):=⟨hv,hpA⟩;refine⟨MSt.live d2 x' a2 n2 (!decide (e2=0)) lm cm a3 n3,⟨hj.w,.inr hj⟩,?_⟩;dsimp only [nX,nW,nU,nV,mT,nR];exact(cC.wk (Eb<|Eb<|Ea<|Ea<|Ea<|Eb<|Ea<|Eb<|Eb<|Ea<|trivial) (Hb<|Hc (aM _ _ rfl rfl rfl)<|Hc (aG _ _)<|Hc (aD _ _ _)<|Hc (aP _ _)<|Hc (by(simp;exact⟨rfl,rfl⟩))<|Hc (aU _ _ _)<|Hc (by(simp;exact⟨rfl,rfl⟩))<|Hb<|Hc (aD _ _ _)<|Ha<|trivial) trivial)
     refine Sr<|Dd eP<|Da ?_;refine Cn ?_ ?_<;>intro hc13
     ·refine Sr<|Dd aB<|Dd (cI gQ)<|Dd (cW aL)<|Dd (cI gP)<|Dd (cW aL)<|Dd (cI lM)<|Dd (cW aL)<|Dd (by exact aA rfl rfl aCg rfl (cG (aCG d0 x.a x.b x.c) _ ⟨rfl,rfl,rfl,rfl,trivial⟩ (by simp;rfl)))<|Zz<|Rg<|Dd aB<|Dd (cI gQ)<|Dd (cW aL)<|Dd (cI gP)<|Dd (cW aL)<|Dd (cI lM)<|Dd (cW aL)<|Dd (by exact aA rfl rfl aCe rfl (CX (R7 d0 x0 x.a x.b x.c) _ ⟨rfl,rfl,rfl,trivial⟩))<|Zz ?_;refine⟨MSt.live (pL d0 x.a x.b x.c) (LK d0 x0 x.a x.b x.c) a n false lm cm a n,⟨N7.w (i:=i+1) (k:=k) hArm,.inr hArm⟩,?_⟩;dsimp only [nX,nW,nU,nV,mT,nR];exact(cC.wk (Eb<|Eb<|Ea<|Ea<|Ea<|Eb<|Ea<|Eb<|Eb<|Ea<|trivial) (Hb<|Hc (aM _ _ rfl rfl rfl)<|Hc (aG _ _)<|Hc (aD _ _ _)<|Hc (aP _ _)<|Hc (by(simp;exact⟨rfl,rfl⟩))<|Hc (aU _ _ _)<|Hc (by(simp;exact⟨rfl,rfl⟩))<|Hb<|Hc (aD _ _ _)<|Ha<|trivial) trivial)
     refine Sr<|Dd eP<|Da ?_;refine Cn ?_ ?_<;>intro hc14
     ·have hk3:x.kind=3:=aHn hc14;refine Sr<|Dd aB<|Dd (cI gQ)<|Dd (cW aL)<|Dd (cI gP)<|Dd (cW aL)<|Dd (by exact aA rfl rfl N3 rfl (cG (NH d0 x.a x.b hok) _ ⟨rfl,rfl,rfl,rfl,trivial⟩ (by simp;rfl)))<|Zz<|Sr<|Dd aB<|Dd (by exact aA rfl rfl aCf rfl (cG (LP (fV d0 x.a x.b)) _ ⟨rfl,rfl,rfl,rfl,trivial⟩ (by simp;rfl)))<|Zz<|Sr<|Dd aB<|Dd (cI gQ)<|Dd (cW aL)<|Dd (cI gP)<|Dd (cW aL)<|Dd (by exact aA rfl rfl N1 rfl (R6 (EP d0 x0 x.a x.b hok) _ ⟨rfl,rfl,rfl,trivial⟩))<|Zz<|Rg<|Dd aB<|Dd (by exact aA rfl rfl aCd rfl (F9 (FW (fV d0 x.a x.b) (sW d0 x0)) _ ⟨rfl,rfl,rfl,trivial⟩))<|Zz ?_;refine⟨MSt.live (oH (fV d0 x.a x.b)) (LJ (fV d0 x.a x.b) (sW d0 x0)) a n false lm cm a n,⟨⟨.inl (NG hor _ _),C2 _,hN0⟩,.inl (.inl hk3)⟩,?_⟩;dsimp only [nX,nW,nU,nV,mT,nR];exact(cC.wk (Eb<|Eb<|Ea<|Ea<|Ea<|Eb<|Ea<|Eb<|Eb<|Ea<|trivial) (Hb<|Hc (aM _ _ rfl rfl rfl)<|Hc (aG _ _)<|Hc (aD _ _ _)<|Hc (aP _ _)<|Hc (by(simp;exact⟨rfl,rfl⟩))<|Hc (aU _ _ _)<|Hc (by(simp;exact⟨rfl,rfl⟩))<|Hb<|Hc (aD _ _ _)<|Ha<|trivial) trivial)
     refine Sr<|Dd eP<|Da ?_;refine Cn ?_ ?_<;>intro hc15
     ·have hk5:x.kind=5:=aHn hc15;refine Sr<|Dd aB<|Dd (cI gQ)<|Dd (cW aL)<|Dd (cI gP)<|Dd (cW aL)<|Dd (cI lM)<|Dd (cW aL)<|Dd (by exact aA rfl rfl aCh rfl (cG (aAU d0 x.a x.b x.c hok) _ ⟨rfl,rfl,rfl,rfl,trivial⟩ (by simp;rfl)))<|Zz<|Rg<|Dd aB<|Dd (cI gQ)<|Dd (cW aL)<|Dd (cI gP)<|Dd (cW aL)<|Dd (cI lM)<|Dd (cW aL)<|Dd (by exact aA rfl rfl aCc rfl (CX (RW d0 x0 x.a x.b x.c hok) _ ⟨rfl,rfl,rfl,trivial⟩))<|Zz ?_;refine⟨MSt.live (rC d0 x.a x.b x.c) x0 a n false lm cm a n,⟨⟨RZ hor _ _ _,MD hps _ _ _,hN0⟩,.inl (.inr (.inr hk5))⟩,?_⟩;dsimp only [nX,nW,nU,nV,mT,nR];exact(cC.wk (Eb<|Eb<|Ea<|Ea<|Ea<|Eb<|Ea<|Eb<|Eb<|Ea<|trivial) (Hb<|Hc (aM _ _ rfl rfl rfl)<|Hc (aG _ _)<|Hc (aD _ _ _)<|Hc (aP _ _)<|Hc (by(simp;exact⟨rfl,rfl⟩))<|Hc (aU _ _ _)<|Hc (by(simp;exact⟨rfl,rfl⟩))<|Hb<|Hc (aD _ _ _)<|Ha<|trivial) trivial)
     refine aF ?_;refine⟨MSt.live d0 x0 a n false lm cm a n,⟨hJ.w,.inr hJ.up⟩,?_⟩;dsimp only [nX,nW,nU,nV,mT,nR];exact(cC.wk (Eb<|Eb<|Ea<|Ea<|Ea<|Eb<|Ea<|Eb<|Eb<|Ea<|trivial) (Hb<|Hc (aM _ _ rfl rfl rfl)<|Hc (aG _ _)<|Hc (aD _ _ _)<|Hc (aP _ _)<|Hc (by(simp;exact⟨rfl,rfl⟩))<|Hc (aU _ _ _)<|Hc (by(simp;exact⟨rfl,rfl⟩))<|Hb<|Hc (aD _ _ _)<|Ha<|trivial) trivial)
    | true =>
     dsimp only [nX,nW,nU,nV,mT,nR];refine Sr<|Dd (cI AB)<|Dd (cW aL)<|Zz<|aJ<|Sr<|Dd eP<|Da ?_;refine Cn ?_ ?_<;>intro hc16
     ·refine Sq<|bF follows<|Cr [] (fun _ _=>aB)<|Cr [13] (fun _ h=>fh lN h)<|Cr [13] (fun _ h=>lh dJ h)<|Cp [950] (fun H1 hH=>by exact aA rfl rfl jC rfl (wK x.put _ ((hH 950 rfl).trans rfl) (by omega)))<|Cr [13] (fun _ h=>fh mF h)<|Cr [13] (fun _ h=>lh bJ h)<|Cr [950,1000,1001,1002,1003,1100,1101] (fun H1 hH=>by exact aA rfl rfl kP rfl (YD (fJ x.put).1 (fJ x.put).2 d0 k a n lm cm x.drop _ ⟨(hH 950 rfl).trans rfl,(hH 1000 rfl).trans rfl,(hH 1001 rfl).trans rfl,(hH 1002 rfl).trans rfl,(hH 1003 rfl).trans rfl,(hH 1100 rfl).trans rfl,(hH 1101 rfl).trans rfl,trivial⟩))<|Cr [] (fun _ _=>aB)<|Cr [13] (fun _ h=>fh lN h)<|Cr [13] (fun _ h=>lh dJ h)<|Cp [960] (fun H1 hH=>by exact aA rfl rfl jC rfl (EW x.put _ ((hH 960 rfl).trans rfl) (by omega)))<|Cr [13] (fun _ h=>fh mF h) ?_;refine Cr [13] (fun _ h=>lh bJ h)<|Cr [960,2100,2101,2102,1200] (fun H1 hH=>by exact aA rfl rfl CL rfl (WW (fJ x.put).1 (fJ x.put).2 d0 x0 k a' n' (prs lm) x.drop _ ⟨(hH 960 rfl).trans rfl,(hH 2100 rfl).trans rfl,(hH 2101 rfl).trans rfl,(hH 2102 rfl).trans rfl,(hH 1200 rfl).trans rfl,trivial⟩))<|Cr [] (fun H1 hH=>by exact bS.eqv (gB rfl rfl rfl) (n23 _))<|cA<|Kr ?_;refine Cn ?_ ?_<;>intro hc17
      ·cases hc17
      refine aF ?_;refine⟨MSt.live d0 x0 a n true lm cm a' n',⟨hJ.w,.inr hJ.up⟩,?_⟩;dsimp only [nX,nW,nU,nV,mT,nR];exact(cC.wk (Eb<|Eb<|Ea<|Ea<|Ea<|Eb<|Ea<|Eb<|Eb<|Ea<|trivial) (Hb<|Hc (aM _ _ rfl rfl rfl)<|Hc (aG _ _)<|Hc (aD _ _ _)<|Hc (aP _ _)<|Hc (by(simp;exact⟨rfl,rfl⟩))<|Hc (aU _ _ _)<|Hc (by(simp;exact⟨rfl,rfl⟩))<|Hb<|Hc (aD _ _ _)<|Ha<|trivial) trivial)
     refine Sr<|Dd eP<|Da ?_;refine Cn ?_ ?_<;>intro hc18
     ·refine Sr<|Dd aB<|Dd (by exact aA rfl rfl CN rfl (jL (aAI d0 k a n lm cm) _ ⟨rfl,rfl,rfl,rfl,rfl,rfl,trivial⟩ (by simp;rfl)))<|Dd aB<|Dd (by exact aA rfl rfl N2 rfl (aAO d0 x0 k a' n' (prs lm) _ ⟨rfl,rfl,rfl,rfl,trivial⟩))<|Dd (by exact bS.eqv (gB rfl rfl rfl) (n23 _))<|Zz ?_;refine Cn ?_ ?_<;>intro hc19
      ·cases hc19
      refine aF ?_;refine⟨MSt.live d0 x0 a n true lm cm a' n',⟨hJ.w,.inr hJ.up⟩,?_⟩;dsimp only [nX,nW,nU,nV,mT,nR];exact(cC.wk (Eb<|Eb<|Ea<|Ea<|Ea<|Eb<|Ea<|Eb<|Eb<|Ea<|trivial) (Hb<|Hc (aM _ _ rfl rfl rfl)<|Hc (aG _ _)<|Hc (aD _ _ _)<|Hc (aP _ _)<|Hc (by(simp;exact⟨rfl,rfl⟩))<|Hc (aU _ _ _)<|Hc (by(simp;exact⟨rfl,rfl⟩))<|Hb<|Hc (aD _ _ _)<|Ha<|trivial) trivial)
     refine Sr<|Dd eP<|Da ?_;refine Cn ?_ ?_<;>intro hc20
     ·refine Sr<|Dd aB<|Dd (cI gQ)<|Dd (cW aL)<|Dd (cI gP)<|Dd (cW aL)<|Dd (cI lM)<|Dd (cW aL)<|Dd (by exact aA rfl rfl aCg rfl (cG (aCG d0 x.a x.b x.c) _ ⟨rfl,rfl,rfl,rfl,trivial⟩ (by simp;rfl)))<|Zz<|Rg<|Dd aB<|Dd (cI gQ)<|Dd (cW aL)<|Dd (cI gP)<|Dd (cW aL)<|Dd (cI lM)<|Dd (cW aL)<|Dd (by exact aA rfl rfl aCe rfl (CX (R7 d0 x0 x.a x.b x.c) _ ⟨rfl,rfl,rfl,trivial⟩))<|Zz ?_;refine⟨MSt.live (pL d0 x.a x.b x.c) (LK d0 x0 x.a x.b x.c) a n true lm cm a' n',⟨N7.w (i:=i+1) (k:=k) hArm,.inr hArm⟩,?_⟩;dsimp only [nX,nW,nU,nV,mT,nR];exact(cC.wk (Eb<|Eb<|Ea<|Ea<|Ea<|Eb<|Ea<|Eb<|Eb<|Ea<|trivial) (Hb<|Hc (aM _ _ rfl rfl rfl)<|Hc (aG _ _)<|Hc (aD _ _ _)<|Hc (aP _ _)<|Hc (by(simp;exact⟨rfl,rfl⟩))<|Hc (aU _ _ _)<|Hc (by(simp;exact⟨rfl,rfl⟩))<|Hb<|Hc (aD _ _ _)<|Ha<|trivial) trivial)
     refine Sr<|Dd eP<|Da ?_;refine Cn ?_ ?_<;>intro hc21
     ·have hk3:x.kind=3:=aHn hc21;refine Sr<|Dd aB<|Dd (cI gQ)<|Dd (cW aL)<|Dd (cI gP)<|Dd (cW aL)<|Dd (by exact aA rfl rfl N3 rfl (cG (NH d0 x.a x.b hok) _ ⟨rfl,rfl,rfl,rfl,trivial⟩ (by simp;rfl)))<|Zz<|Sr<|Dd aB<|Dd (by exact aA rfl rfl aCf rfl (cG (LP (fV d0 x.a x.b)) _ ⟨rfl,rfl,rfl,rfl,trivial⟩ (by simp;rfl)))<|Zz<|Sr<|Dd aB<|Dd (cI gQ)<|Dd (cW aL)<|Dd (cI gP)<|Dd (cW aL)<|Dd (by exact aA rfl rfl N1 rfl (R6 (EP d0 x0 x.a x.b hok) _ ⟨rfl,rfl,rfl,trivial⟩))<|Zz<|Rg<|Dd aB<|Dd (by exact aA rfl rfl aCd rfl (F9 (FW (fV d0 x.a x.b) (sW d0 x0)) _ ⟨rfl,rfl,rfl,trivial⟩))<|Zz ?_;refine⟨MSt.live (oH (fV d0 x.a x.b)) (LJ (fV d0 x.a x.b) (sW d0 x0)) a n true lm cm a' n',⟨⟨.inl (NG hor _ _),C2 _,hN0⟩,.inl (.inl hk3)⟩,?_⟩;dsimp only [nX,nW,nU,nV,mT,nR];exact(cC.wk (Eb<|Eb<|Ea<|Ea<|Ea<|Eb<|Ea<|Eb<|Eb<|Ea<|trivial) (Hb<|Hc (aM _ _ rfl rfl rfl)<|Hc (aG _ _)<|Hc (aD _ _ _)<|Hc (aP _ _)<|Hc (by(simp;exact⟨rfl,rfl⟩))<|Hc (aU _ _ _)<|Hc (by(simp;exact⟨rfl,rfl⟩))<|Hb<|Hc (aD _ _ _)<|Ha<|trivial) trivial)
     refine Sr<|Dd eP<|Da ?_;refine Cn ?_ ?_<;>intro hc22
     ·have hk5:x.kind=5:=aHn hc22;refine Sr<|Dd aB<|Dd (cI gQ)<|Dd (cW aL)<|Dd (cI gP)<|Dd (cW aL)<|Dd (cI lM)<|Dd (cW aL)<|Dd (by exact aA rfl rfl aCh rfl (cG (aAU d0 x.a x.b x.c hok) _ ⟨rfl,rfl,rfl,rfl,trivial⟩ (by simp;rfl)))<|Zz<|Rg<|Dd aB<|Dd (cI gQ)<|Dd (cW aL)<|Dd (cI gP)<|Dd (cW aL)<|Dd (cI lM)<|Dd (cW aL)<|Dd (by exact aA rfl rfl aCc rfl (CX (RW d0 x0 x.a x.b x.c hok) _ ⟨rfl,rfl,rfl,trivial⟩))<|Zz ?_;refine⟨MSt.live (rC d0 x.a x.b x.c) x0 a n true lm cm a' n',⟨⟨RZ hor _ _ _,MD hps _ _ _,hN0⟩,.inl (.inr (.inr hk5))⟩,?_⟩;dsimp only [nX,nW,nU,nV,mT,nR];exact(cC.wk (Eb<|Eb<|Ea<|Ea<|Ea<|Eb<|Ea<|Eb<|Eb<|Ea<|trivial) (Hb<|Hc (aM _ _ rfl rfl rfl)<|Hc (aG _ _)<|Hc (aD _ _ _)<|Hc (aP _ _)<|Hc (by(simp;exact⟨rfl,rfl⟩))<|Hc (aU _ _ _)<|Hc (by(simp;exact⟨rfl,rfl⟩))<|Hb<|Hc (aD _ _ _)<|Ha<|trivial) trivial)
     refine aF ?_;refine⟨MSt.live d0 x0 a n true lm cm a' n',⟨hJ.w,.inr hJ.up⟩,?_⟩;dsimp only [nX,nW,nU,nV,mT,nR];exact(cC.wk (Eb<|Eb<|Ea<|Ea<|Ea<|Eb<|Ea<|Eb<|Eb<|Ea<|trivial) (Hb<|Hc (aM _ _ rfl rfl rfl)<|Hc (aG _ _)<|Hc (aD _ _ _)<|Hc (aP _ _)<|Hc (by(simp;exact⟨rfl,rfl⟩))<|Hc (aU _ _ _)<|Hc (by(simp;exact⟨rfl,rfl⟩))<|Hb<|Hc (aD _ _ _)<|Ha<|trivial) trivial)
   | dead d0 x0 e0 =>
    obtain ⟨hor,hps,hN0⟩:=hJ;have hJ:N7 N k i (.dead d0 x0 e0):=⟨hor,hps,hN0⟩;have hok:=UV hor;dsimp only [nX,nW,nU,nV,mT,nR];refine Sr<|Dd (cI AB)<|Dd (cW aL)<|Zz<|aJ<|Sr<|Dd eP<|Da ?_;refine Cn ?_ ?_<;>intro hc23
    ·refine Sq<|bF follows<|Cr [] (fun _ _=>aB)<|Cr [13] (fun _ h=>fh lN h)<|Cr [13] (fun _ h=>lh dJ h)<|Cp [950] (fun H1 hH=>by exact aA rfl rfl jC rfl (wK x.put _ ((hH 950 rfl).trans rfl) (by omega)))<|Cr [13] (fun _ h=>fh mF h)<|Cr [13] (fun _ h=>lh bJ h)<|Cr [950,1000,1001,1002,1003,1100,1101] (fun H1 hH=>by exact aA rfl rfl kP rfl (EC _ _ _))<|Cr [] (fun _ _=>aB)<|Cr [13] (fun _ h=>fh lN h)<|Cr [13] (fun _ h=>lh dJ h)<|Cp [960] (fun H1 hH=>by exact aA rfl rfl jC rfl (EW x.put _ ((hH 960 rfl).trans rfl) (by omega)))<|Cr [13] (fun _ h=>fh mF h)<|Cr [13] (fun _ h=>lh bJ h)<|Cr [960,2100,2101,2102,1200] (fun H1 hH=>by exact aA rfl rfl CL rfl (A3 _ _ _))<|Cr [] (fun H1 hH=>by exact bS.eqv (gB rfl rfl rfl) (n23 _)) ?_;refine cA<|Kr ?_;refine Cn ?_ ?_<;>intro hc24
     ·cases hc24
     refine aF ?_;refine⟨MSt.dead d0 x0 e0,⟨hJ,.inr hJ⟩,?_⟩;dsimp only [nX,nW,nU,nV,mT,nR];exact(cC.wk (Eb<|Eb<|Ea<|Ea<|Eb<|Eb<|Eb<|Eb<|Eb<|Ea<|trivial) (Hb<|Hc (aM _ _ rfl rfl rfl)<|Hc (aG _ _)<|Hc (aD _ _ _)<|Hc (aP _ _)<|Hc (by(simp;exact⟨rfl,rfl⟩))<|Hb<|Hc (aD _ _ _)<|trivial) trivial)
    refine Sr<|Dd eP<|Da ?_;refine Cn ?_ ?_<;>intro hc25
    ·refine Sr<|Dd aB<|Dd (by exact aA rfl rfl CN rfl (FV _))<|Dd aB<|Dd (by exact aA rfl rfl N2 rfl (DV _))<|Dd (by exact bS.eqv (gB rfl rfl rfl) (n23 _))<|Zz ?_;refine Cn ?_ ?_<;>intro hc26
     ·cases hc26
     refine aF ?_;refine⟨MSt.dead d0 x0 e0,⟨hJ,.inr hJ⟩,?_⟩;dsimp only [nX,nW,nU,nV,mT,nR];exact(cC.wk (Eb<|Eb<|Ea<|Ea<|Eb<|Eb<|Eb<|Eb<|Eb<|Ea<|trivial) (Hb<|Hc (aM _ _ rfl rfl rfl)<|Hc (aG _ _)<|Hc (aD _ _ _)<|Hc (aP _ _)<|Hc (by(simp;exact⟨rfl,rfl⟩))<|Hb<|Hc (aD _ _ _)<|trivial) trivial)
    refine Sr<|Dd eP<|Da ?_;refine Cn ?_ ?_<;>intro hc27
    ·refine Sr<|Dd aB<|Dd (cI gQ)<|Dd (cW aL)<|Dd (cI gP)<|Dd (cW aL)<|Dd (cI lM)<|Dd (cW aL)<|Dd (by exact aA rfl rfl aCg rfl (cG (aCG d0 x.a x.b x.c) _ ⟨rfl,rfl,rfl,rfl,trivial⟩ (by simp;rfl)))<|Zz<|Rg<|Dd aB<|Dd (cI gQ)<|Dd (cW aL)<|Dd (cI gP)<|Dd (cW aL)<|Dd (cI lM)<|Dd (cW aL)<|Dd (by exact aA rfl rfl aCe rfl (CX (R7 d0 x0 x.a x.b x.c) _ ⟨rfl,rfl,rfl,trivial⟩))<|Zz ?_;refine⟨MSt.dead (pL d0 x.a x.b x.c) (LK d0 x0 x.a x.b x.c) e0,⟨⟨aCF hor _ _ _ (ha x hxm),ME hps _ _ _,hN0⟩,.inr ⟨aCF hor _ _ _ (ha x hxm),ME hps _ _ _,hN0⟩⟩,?_⟩;dsimp only [nX,nW,nU,nV,mT,nR];exact(cC.wk (Eb<|Eb<|Ea<|Ea<|Eb<|Eb<|Eb<|Eb<|Eb<|Ea<|trivial) (Hb<|Hc (aM _ _ rfl rfl rfl)<|Hc (aG _ _)<|Hc (aD _ _ _)<|Hc (aP _ _)<|Hc (by(simp;exact⟨rfl,rfl⟩))<|Hb<|Hc (aD _ _ _)<|trivial) trivial)
    refine Sr<|Dd eP<|Da ?_;refine Cn ?_ ?_<;>intro hc28
    ·have hk3:x.kind=3:=aHn hc28;refine Sr<|Dd aB<|Dd (cI gQ)<|Dd (cW aL)<|Dd (cI gP)<|Dd (cW aL)<|Dd (by exact aA rfl rfl N3 rfl (cG (NH d0 x.a x.b hok) _ ⟨rfl,rfl,rfl,rfl,trivial⟩ (by simp;rfl)))<|Zz<|Sr<|Dd aB<|Dd (by exact aA rfl rfl aCf rfl (cG (LP (fV d0 x.a x.b)) _ ⟨rfl,rfl,rfl,rfl,trivial⟩ (by simp;rfl)))<|Zz<|Sr<|Dd aB<|Dd (cI gQ)<|Dd (cW aL)<|Dd (cI gP)<|Dd (cW aL)<|Dd (by exact aA rfl rfl N1 rfl (R6 (EP d0 x0 x.a x.b hok) _ ⟨rfl,rfl,rfl,trivial⟩))<|Zz<|Rg<|Dd aB<|Dd (by exact aA rfl rfl aCd rfl (F9 (FW (fV d0 x.a x.b) (sW d0 x0)) _ ⟨rfl,rfl,rfl,trivial⟩))<|Zz ?_;refine⟨MSt.dead (oH (fV d0 x.a x.b)) (LJ (fV d0 x.a x.b) (sW d0 x0)) e0,⟨⟨.inl (NG hor _ _),C2 _,hN0⟩,.inl (.inl hk3)⟩,?_⟩;dsimp only [nX,nW,nU,nV,mT,nR];exact(cC.wk (Eb<|Eb<|Ea<|Ea<|Eb<|Eb<|Eb<|Eb<|Eb<|Ea<|trivial) (Hb<|Hc (aM _ _ rfl rfl rfl)<|Hc (aG _ _)<|Hc (aD _ _ _)<|Hc (aP _ _)<|Hc (by(simp;exact⟨rfl,rfl⟩))<|Hb<|Hc (aD _ _ _)<|trivial) trivial)
    refine Sr<|Dd eP<|Da ?_;refine Cn ?_ ?_<;>intro hc29
    ·have hk5:x.kind=5:=aHn hc29;refine Sr<|Dd aB<|Dd (cI gQ)<|Dd (cW aL)<|Dd (cI gP)<|Dd (cW aL)<|Dd (cI lM)<|Dd (cW aL)<|Dd (by exact aA rfl rfl aCh rfl (cG (aAU d0 x.a x.b x.c hok) _ ⟨rfl,rfl,rfl,rfl,trivial⟩ (by simp;rfl)))<|Zz<|Rg<|Dd aB<|Dd (cI gQ)<|Dd (cW aL)<|Dd (cI gP)<|Dd (cW aL)<|Dd (cI lM)<|Dd (cW aL)<|Dd (by exact aA rfl rfl aCc rfl (CX (RW d0 x0 x.a x.b x.c hok) _ ⟨rfl,rfl,rfl,trivial⟩))<|Zz ?_;refine⟨MSt.dead (rC d0 x.a x.b x.c) x0 e0,⟨⟨RZ hor _ _ _,MD hps _ _ _,hN0⟩,.inl (.inr (.inr hk5))⟩,?_⟩;dsimp only [nX,nW,nU,nV,mT,nR];exact(cC.wk (Eb<|Eb<|Ea<|Ea<|Eb<|Eb<|Eb<|Eb<|Eb<|Ea<|trivial) (Hb<|Hc (aM _ _ rfl rfl rfl)<|Hc (aG _ _)<|Hc (aD _ _ _)<|Hc (aP _ _)<|Hc (by(simp;exact⟨rfl,rfl⟩))<|Hb<|Hc (aD _ _ _)<|trivial) trivial)
    refine aF ?_;refine⟨MSt.dead d0 x0 e0,⟨hJ,.inr hJ⟩,?_⟩;dsimp only [nX,nW,nU,nV,mT,nR];exact(cC.wk (Eb<|Eb<|Ea<|Ea<|Eb<|Eb<|Eb<|Eb<|Eb<|Ea<|trivial) (Hb<|Hc (aM _ _ rfl rfl rfl)<|Hc (aG _ _)<|Hc (aD _ _ _)<|Hc (aP _ _)<|Hc (by(simp;exact⟨rfl,rfl⟩))<|Hb<|Hc (aD _ _ _)<|trivial) trivial)
   | nil =>
    dsimp only [nX,nW,nU,nV,mT,nR];refine Sr<|Dd (cI AB)<|Dd (cW aL)<|Zz<|aJ<|Sr<|Dd eP<|Da ?_;refine Cn ?_ ?_<;>intro hc30
    ·refine Sq<|bF follows<|Cr [] (fun _ _=>aB)<|Cr [13] (fun _ h=>fh lN h)<|Cr [13] (fun _ h=>lh dJ h)<|Cp [950] (fun H1 hH=>by exact aA rfl rfl jC rfl (wK x.put _ ((hH 950 rfl).trans rfl) (by omega)))<|Cr [13] (fun _ h=>fh mF h)<|Cr [13] (fun _ h=>lh bJ h)<|Cr [950,1000,1001,1002,1003,1100,1101] (fun H1 hH=>by exact aA rfl rfl kP rfl (EC _ _ _))<|Cr [] (fun _ _=>aB)<|Cr [13] (fun _ h=>fh lN h)<|Cr [13] (fun _ h=>lh dJ h)<|Cp [960] (fun H1 hH=>by exact aA rfl rfl jC rfl (EW x.put _ ((hH 960 rfl).trans rfl) (by omega)))<|Cr [13] (fun _ h=>fh mF h)<|Cr [13] (fun _ h=>lh bJ h)<|Cr [960,2100,2101,2102,1200] (fun H1 hH=>by exact aA rfl rfl CL rfl (A3 _ _ _))<|Cr [] (fun H1 hH=>by exact bS.eqv (gB rfl rfl rfl) (n23 _)) ?_;refine cA<|Kr ?_;refine Cn ?_ ?_<;>intro hc31
     ·cases hc31
     refine aF ?_;refine⟨MSt.nil,⟨trivial,.inr trivial⟩,?_⟩;dsimp only [nX,nW,nU,nV,mT,nR];exact Wk
    refine Sr<|Dd eP<|Da ?_;refine Cn ?_ ?_<;>intro hc32
    ·refine Sr<|Dd aB<|Dd (by exact aA rfl rfl CN rfl (FV _))<|Dd aB<|Dd (by exact aA rfl rfl N2 rfl (DV _))<|Dd (by exact bS.eqv (gB rfl rfl rfl) (n23 _))<|Zz ?_;refine Cn ?_ ?_<;>intro hc33
     ·cases hc33
     refine aF ?_;refine⟨MSt.nil,⟨trivial,.inr trivial⟩,?_⟩;dsimp only [nX,nW,nU,nV,mT,nR];exact Wk
    refine Sr<|Dd eP<|Da ?_;refine Cn ?_ ?_<;>intro hc34
    ·refine Sr<|Dd aB<|Dd (cI gQ)<|Dd (cW aL)<|Dd (cI gP)<|Dd (cW aL)<|Dd (cI lM)<|Dd (cW aL)<|Dd (by exact aA rfl rfl aCg rfl (aFG _ _ _ _))<|Zz<|Rg<|Dd aB<|Dd (cI gQ)<|Dd (cW aL)<|Dd (cI gP)<|Dd (cW aL)<|Dd (cI lM)<|Dd (cW aL)<|Dd (by exact aA rfl rfl aCe rfl (WZ _ _ _ _))<|Zz ?_;refine⟨MSt.nil,⟨trivial,.inr trivial⟩,?_⟩;dsimp only [nX,nW,nU,nV,mT,nR];exact Wk
    refine Sr<|Dd eP<|Da ?_;refine Cn ?_ ?_<;>intro hc35
    ·refine Sr<|Dd aB<|Dd (cI gQ)<|Dd (cW aL)<|Dd (cI gP)<|Dd (cW aL)<|Dd (by exact aA rfl rfl N3 rfl (aDY _ _ _))<|Zz<|Sr<|Dd aB<|Dd (by exact aA rfl rfl aCf rfl (aAq _))<|Zz<|Sr<|Dd aB<|Dd (cI gQ)<|Dd (cW aL)<|Dd (cI gP)<|Dd (cW aL)<|Dd (by exact aA rfl rfl N1 rfl (R1 _ _ _))<|Zz<|Rg<|Dd aB<|Dd (by exact aA rfl rfl aCd rfl (OW _))<|Zz ?_;refine⟨MSt.nil,⟨trivial,.inr trivial⟩,?_⟩;dsimp only [nX,nW,nU,nV,mT,nR];exact Wk
    refine Sr<|Dd eP<|Da ?_;refine Cn ?_ ?_<;>intro hc36
    ·refine Sr<|Dd aB<|Dd (cI gQ)<|Dd (cW aL)<|Dd (cI gP)<|Dd (cW aL)<|Dd (cI lM)<|Dd (cW aL)<|Dd (by exact aA rfl rfl aCh rfl (aFE _ _ _ _))<|Zz<|Rg<|Dd aB<|Dd (cI gQ)<|Dd (cW aL)<|Dd (cI gP)<|Dd (cW aL)<|Dd (cI lM)<|Dd (cW aL)<|Dd (by exact aA rfl rfl aCc rfl (WN _ _ _ _))<|Zz ?_;refine⟨MSt.nil,⟨trivial,.inr trivial⟩,?_⟩;dsimp only [nX,nW,nU,nV,mT,nR];exact Wk
    refine aF ?_;refine⟨MSt.nil,⟨trivial,.inr trivial⟩,?_⟩;dsimp only [nX,nW,nU,nV,mT,nR];exact Wk
  rintro st2 ⟨hW2,hJ2⟩;refine fZ (fun(st:MSt)=>([(1,.pv (oQ l)),(5,bv true),(6,nX st),(7,nW st),(8,nU st),(9,iv (mT st)),(10,nV st),(11,iv (mT st)),(12,iv (i:Int))],nR k st)) (fun st=>N7 N k (i+1) st) ?_ ?_
  ·refine Sq ?_;refine cQ (t:=157) (n:=15) (X:=(decide (x.kind=3)||decide (x.kind=4))||decide (x.kind=5)) ?_ ?_
   ·all_goals refine Dd (cI AB) ?_
    all_goals refine Dd (cW aL)<|Dd eP<|Dm ?_
    all_goals refine Sp 148 (fun h148=>?_) fun h148=>?_
    all_goals try contradiction
    all_goals first|refine Fo<|Fo<|Fo ?_|refine On (cI AB)<|On (cW aL)<|On eP ?_
    all_goals refine Dd cX<|Dm ?_
    all_goals refine Sp 153 (fun h153=>?_) fun h153=>?_
    all_goals try contradiction
    all_goals first|refine Fo<|Fo<|Fo ?_|refine On (cI AB)<|On (cW aL)<|On eP ?_
    all_goals refine Dd cX<|Zz ?_
    all_goals(exact⟨⟨_,rfl,by first|(rw [h148];rfl)|(rw [h148,h153];rfl)⟩,rfl,rfl,rfl⟩)
   refine Cn ?_ ?_<;>intro hc37
   ·cases st2 with
    | live d0 x0 a n b lm cm a' n' =>
     obtain ⟨hor,hp0,hN0⟩:=hW2;refine Sq ?_;refine iF.ent (E':=[(1,.pv (oQ l)),(5,bv true),(6,.ref 1000 0 0 0),(7,.ref 2100 0 0 0),(12,iv (i:Int))]) (H':=bN d0++jW d0 x0) (by dsimp only [nX,nW,nU,nV,mT,nR];exact(cC.wk (Eb<|Eb<|Ea<|Ea<|Eb<|trivial) (Hc (aM _ _ rfl rfl rfl)<|Hc (aG _ _)<|Hc (aD _ _ _)<|Hc (aP _ _)<|Hc (by(simp;exact⟨rfl,rfl⟩))<|Hb<|Hc (aD _ _ _)<|trivial) trivial)) ?_;refine Rg<|Dm ?_;refine gC rfl rfl (aA rfl rfl rP rfl (SH hor hk _ ⟨rfl,rfl,rfl,rfl,trivial⟩ rfl rfl)) ?_;rintro _ _ (⟨e1,rfl,rfl⟩|⟨e1,rfl,lm,cm,q1,q2,q3,q4,rfl⟩)
     ·refine Dd aB<|Dd eC<|Dd eC<|Dd aR<|Dd aR<|Zz<|Rg<|Dm ?_;refine gC rfl rfl (aA rfl rfl rO rfl (CR (x:=x0) hor hp0 hk (by omega) _ ⟨rfl,rfl,rfl,trivial⟩ rfl)) ?_;rintro _ _ (⟨e2,rfl,x',rfl⟩|⟨e2,rfl,x',L,p1,p2,rfl⟩)
      ·refine Dd aB<|Dd eC<|Dd eC<|Dd aR<|Da ?_;refine⟨MSt.dead (nT d0 N k).2 x' (nT d0 N k).1,TB hor hp0 hN0 hk (by omega) e1,?_⟩;dsimp only [nX,nW,nU,nV,mT,nR];exact(cC.wk (Eb<|Eb<|Ea<|Ea<|Eb<|Eb<|Eb<|Eb<|Eb<|trivial) (Hc (aM _ _ rfl rfl rfl)<|Hc (aG _ _)<|Hc (aD _ _ _)<|Hc (aP _ _)<|Hc (by(simp;exact⟨rfl,rfl⟩))<|Hb<|Hc (aD _ _ _)<|trivial) trivial)
      exact absurd e2 e1
     refine Dd aB<|Dd eC<|Dd eC<|Dd aR<|Dd aR<|Zz<|Rg<|Dm ?_;refine gC rfl rfl (aA rfl rfl rO rfl (CR (x:=x0) hor hp0 hk (by omega) _ ⟨rfl,rfl,rfl,trivial⟩ rfl)) ?_;rintro _ _ (⟨e2,rfl,x',rfl⟩|⟨e2,rfl,x',L,p1,p2,rfl⟩)
     ·exact absurd e1 e2
     have hLp:L=prs lm:=C1 p1 q2 fun y=>by rw [p2,q4]
     rw [hLp];refine Dd aB<|Dd eC<|Dd eC<|Dd aR<|Da ?_;refine⟨MSt.live (nT d0 N k).2 x' (sV d0 k) (rQ d0 k) false lm cm (sV d0 k) (rQ d0 k),SY hor hp0 hk (by omega) e1 q1 q2 q3 q4,?_⟩;dsimp only [nX,nW,nU,nV,mT,nR];exact(cC.wk (Eb<|Eb<|Ea<|Ea<|Ea<|Eb<|Ea<|Eb<|Eb<|trivial) (Hc (aM _ _ rfl rfl rfl)<|Hc (aG _ _)<|Hc (aD _ _ _)<|Hc (aP _ _)<|Hc (by(simp;exact⟨rfl,rfl⟩))<|Hc (aU _ _ _)<|Hc (by(simp;exact⟨rfl,rfl⟩))<|Hb<|Hc (aD _ _ _)<|Ha<|trivial) trivial)
    | dead d0 x0 e0 =>
     obtain ⟨hor,hp0,hN0⟩:=hW2;refine Sq ?_;refine iF.ent (E':=[(1,.pv (oQ l)),(5,bv true),(6,.ref 1000 0 0 0),(7,.ref 2100 0 0 0),(12,iv (i:Int))]) (H':=bN d0++jW d0 x0) (by dsimp only [nX,nW,nU,nV,mT,nR];exact(cC.wk (Eb<|Eb<|Ea<|Ea<|Eb<|trivial) (Hc (aM _ _ rfl rfl rfl)<|Hc (aG _ _)<|Hc (aD _ _ _)<|Hc (aP _ _)<|Hc (by(simp;exact⟨rfl,rfl⟩))<|Hb<|Hc (aD _ _ _)<|trivial) trivial)) ?_;refine Rg<|Dm ?_;refine gC rfl rfl (aA rfl rfl rP rfl (SH hor hk _ ⟨rfl,rfl,rfl,rfl,trivial⟩ rfl rfl)) ?_;rintro _ _ (⟨e1,rfl,rfl⟩|⟨e1,rfl,lm,cm,q1,q2,q3,q4,rfl⟩)
     ·refine Dd aB<|Dd eC<|Dd eC<|Dd aR<|Dd aR<|Zz<|Rg<|Dm ?_;refine gC rfl rfl (aA rfl rfl rO rfl (CR (x:=x0) hor hp0 hk (by omega) _ ⟨rfl,rfl,rfl,trivial⟩ rfl)) ?_;rintro _ _ (⟨e2,rfl,x',rfl⟩|⟨e2,rfl,x',L,p1,p2,rfl⟩)
      ·refine Dd aB<|Dd eC<|Dd eC<|Dd aR<|Da ?_;refine⟨MSt.dead (nT d0 N k).2 x' (nT d0 N k).1,TB hor hp0 hN0 hk (by omega) e1,?_⟩;dsimp only [nX,nW,nU,nV,mT,nR];exact(cC.wk (Eb<|Eb<|Ea<|Ea<|Eb<|Eb<|Eb<|Eb<|Eb<|trivial) (Hc (aM _ _ rfl rfl rfl)<|Hc (aG _ _)<|Hc (aD _ _ _)<|Hc (aP _ _)<|Hc (by(simp;exact⟨rfl,rfl⟩))<|Hb<|Hc (aD _ _ _)<|trivial) trivial)
      exact absurd e2 e1
     refine Dd aB<|Dd eC<|Dd eC<|Dd aR<|Dd aR<|Zz<|Rg<|Dm ?_;refine gC rfl rfl (aA rfl rfl rO rfl (CR (x:=x0) hor hp0 hk (by omega) _ ⟨rfl,rfl,rfl,trivial⟩ rfl)) ?_;rintro _ _ (⟨e2,rfl,x',rfl⟩|⟨e2,rfl,x',L,p1,p2,rfl⟩)
     ·exact absurd e1 e2
     have hLp:L=prs lm:=C1 p1 q2 fun y=>by rw [p2,q4]
     rw [hLp];refine Dd aB<|Dd eC<|Dd eC<|Dd aR<|Da ?_;refine⟨MSt.live (nT d0 N k).2 x' (sV d0 k) (rQ d0 k) false lm cm (sV d0 k) (rQ d0 k),SY hor hp0 hk (by omega) e1 q1 q2 q3 q4,?_⟩;dsimp only [nX,nW,nU,nV,mT,nR];exact(cC.wk (Eb<|Eb<|Ea<|Ea<|Ea<|Eb<|Ea<|Eb<|Eb<|trivial) (Hc (aM _ _ rfl rfl rfl)<|Hc (aG _ _)<|Hc (aD _ _ _)<|Hc (aP _ _)<|Hc (by(simp;exact⟨rfl,rfl⟩))<|Hc (aU _ _ _)<|Hc (by(simp;exact⟨rfl,rfl⟩))<|Hb<|Hc (aD _ _ _)<|Ha<|trivial) trivial)
    | nil =>
     refine Sr<|Dd aB<|Dd (by exact aA rfl rfl rP rfl (J6 _))<|Dd aB<|Dd eC<|Dd eC<|Dd aR<|Dd aR<|Zz<|Rg<|Dd aB<|Dd (by exact aA rfl rfl rO rfl (F2 _))<|Dd aB<|Dd eC<|Dd eC<|Dd aR<|Da ?_;refine⟨MSt.nil,trivial,?_⟩;dsimp only [nX,nW,nU,nV,mT,nR];exact Wk
   have hq:=hc37;have hJ3:N7 N k (i+1) st2:=by
    rcases hJ2 with(h|h|h)|h
    ·rw [h] at hq;cases hq
    ·rw [h] at hq;cases hq
    ·rw [h] at hq;cases hq
    exact h
   refine aF ?_;refine⟨st2,hJ3,?_⟩;cases st2 with
   | nil=>dsimp only [nX,nW,nU,nV,mT,nR];exact Wk
   | dead d0 x0 e0=>dsimp only [nX,nW,nU,nV,mT,nR];exact(cC.wk (Eb<|Eb<|Ea<|Ea<|Eb<|Eb<|Eb<|Eb<|Eb<|trivial) (Hc (aM _ _ rfl rfl rfl)<|Hc (aG _ _)<|Hc (aD _ _ _)<|Hc (aP _ _)<|Hc (by(simp;exact⟨rfl,rfl⟩))<|Hb<|Hc (aD _ _ _)<|trivial) trivial)
   | live d0 x0 a n b lm cm a' n'=>dsimp only [nX,nW,nU,nV,mT,nR];exact(cC.wk (Eb<|Eb<|Ea<|Ea<|Ea<|Eb<|Ea<|Eb<|Eb<|trivial) (Hc (aM _ _ rfl rfl rfl)<|Hc (aG _ _)<|Hc (aD _ _ _)<|Hc (aP _ _)<|Hc (by(simp;exact⟨rfl,rfl⟩))<|Hc (aU _ _ _)<|Hc (by(simp;exact⟨rfl,rfl⟩))<|Hb<|Hc (aD _ _ _)<|Ha<|trivial) trivial)
  rintro st3 hJ3;cases st3 with
  | nil =>
   refine Sr<|Dd aB<|Dd (by exact aA rfl rfl N4 rfl (aFF _))<|Dd aB<|Dd (by exact aA rfl rfl aH9 rfl (WO _))<|Dd (by exact bS.eqv (iW rfl rfl rfl) (nss _))<|Zz ?_;refine Cn ?_ ?_<;>intro hc38
   ·cases hc38
   refine aF<|Rg<|Dd aB<|Dd (by exact bA rfl rfl rfl (show IntKind.i64.wrap ((i:Int)+1)=((i+1:Nat):Int)by rw [eS (by omega) (by omega)];omega))<|Da ?_;refine⟨i+1,MSt.nil,⟨by omega,hJ3⟩,by omega,?_⟩;dsimp only [nX,nW,nU,nV,mT,nR];exact Wk
  | dead d0 x0 e0 =>
   have hok:=UV hJ3.1;dsimp only [nX,nW,nU,nV,mT,nR];refine Sr<|Dd aB<|Dd (by exact aA rfl rfl N4 rfl (aK.frameS (UL d0 hok) (lZ.sub ⟨rfl,rfl,rfl,rfl,trivial⟩) (nM d0) (by simp;rfl)))<|Dd aB<|Dd (by exact aA rfl rfl aH9 rfl (F9 (aAS d0 x0 hok) _ ⟨rfl,rfl,rfl,trivial⟩))<|Dd (by exact bS.eqv (iW rfl rfl rfl) (nss _))<|Zz ?_;refine Cn ?_ ?_<;>intro hc39
   ·cases hc39
   refine aF<|Rg<|Dd aB<|Dd (by exact bA rfl rfl rfl (show IntKind.i64.wrap ((i:Int)+1)=((i+1:Nat):Int)by rw [eS (by omega) (by omega)];omega))<|Da ?_;refine⟨i+1,MSt.dead d0 x0 e0,⟨by omega,hJ3⟩,by omega,?_⟩;dsimp only [nX,nW,nU,nV,mT,nR];exact(cC.wk (Eb<|Eb<|Ea<|Ea<|Eb<|Eb<|Eb<|Eb<|Eb<|trivial) (Hc (aM _ _ rfl rfl rfl)<|Hc (aG _ _)<|Hc (aD _ _ _)<|Hc (aP _ _)<|Hc (by(simp;exact⟨rfl,rfl⟩))<|Hb<|Hc (aD _ _ _)<|trivial) trivial)
  | live d0 x0 a n b lm cm a' n' =>
   have hok:=UV hJ3.1.or;dsimp only [nX,nW,nU,nV,mT,nR];refine Sr<|Dd aB<|Dd (by exact aA rfl rfl N4 rfl (aK.frameS (UL d0 hok) (lZ.sub ⟨rfl,rfl,rfl,rfl,trivial⟩) (nM d0) (by simp;rfl)))<|Dd aB<|Dd (by exact aA rfl rfl aH9 rfl (F9 (aAS d0 x0 hok) _ ⟨rfl,rfl,rfl,trivial⟩))<|Dd (by exact bS.eqv (iW rfl rfl rfl) (nss _))<|Zz ?_;refine Cn ?_ ?_<;>intro hc40
   ·cases hc40
   refine aF<|Rg<|Dd aB<|Dd (by exact bA rfl rfl rfl (show IntKind.i64.wrap ((i:Int)+1)=((i+1:Nat):Int)by rw [eS (by omega) (by omega)];omega))<|Da ?_;refine⟨i+1,MSt.live d0 x0 a n b lm cm a' n',⟨by omega,hJ3⟩,by omega,?_⟩;dsimp only [nX,nW,nU,nV,mT,nR];exact(cC.wk (Eb<|Eb<|Ea<|Ea<|Ea<|Eb<|Ea<|Eb<|Eb<|trivial) (Hc (aM _ _ rfl rfl rfl)<|Hc (aG _ _)<|Hc (aD _ _ _)<|Hc (aP _ _)<|Hc (by(simp;exact⟨rfl,rfl⟩))<|Hc (aU _ _ _)<|Hc (by(simp;exact⟨rfl,rfl⟩))<|Hb<|Hc (aD _ _ _)<|Ha<|trivial) trivial)
 have n1:∀ z:Int,AV.pv (.bool (decide (z=z)))=bv true:=fun z=>by rw [decide_eq_true rfl]
 cases st with
 | nil =>
  have hsm:=fun H=>qR [] [] H (by decide) (by decide);rw [decide_eq_true rfl] at hsm;exact aV<|Sr<|Dd aB<|Dd aB<|On aB<|On aB<|On (by exact bS.eqv (rV rfl rfl rfl) (n1 _))<|Dd cX<|Dd aB<|On aB<|On (by exact aA rfl rfl CO rfl (oM _))<|On aB<|On (by exact aA rfl rfl CM rfl (rW _))<|On (by exact aA rfl rfl vS rfl (hsm _))<|Dd cX<|Dd aR<|Zz<|aH<|Rt<|Qq
 | dead d0 x0 e0 =>
  have hsm:=fun H=>qR [] [] H (by decide) (by decide);rw [decide_eq_true rfl] at hsm;exact aV<|Sr<|Dd aB<|Dd aB<|On aB<|On aB<|On (by exact bS.eqv (rV rfl rfl rfl) (n1 _))<|Dd cX<|Dd aB<|On aB<|On (by exact aA rfl rfl CO rfl (oM _))<|On aB<|On (by exact aA rfl rfl CM rfl (rW _))<|On (by exact aA rfl rfl vS rfl (hsm _))<|Dd cX<|Dd aR<|Zz<|aH<|Rt<|Qq
 | live d0 x0 a n b lm cm a' n' =>
  have hlen:=hJ.1.len;have hcn:=HN d0 k a n b lm cm hJ.1.st hJ.1.nd (by omega);have hli:=fun H hs=>U6 d0 x0 k a' n' (prs lm) b (by rw [oL];omega) H hs;rw [GC] at hli;have hkl:=GW lm;have hsm:=fun H=>qR (oE lm) (oE lm) H (by omega) (by omega);rw [decide_eq_true rfl] at hsm;exact aV<|Sr<|Dd aB<|Dd aB<|On aB<|On aB<|On (by exact bS.eqv (rV rfl rfl rfl) (n1 _))<|Dd cX<|Dd aB<|On aB<|On (by exact aA rfl rfl CO rfl (jL hcn _ ⟨rfl,rfl,rfl,rfl,rfl,rfl,trivial⟩ (by simp;rfl)))<|On aB<|On (by exact aA rfl rfl CM rfl (hli _ ⟨rfl,rfl,rfl,rfl,trivial⟩))<|On (by exact aA rfl rfl vS rfl (hsm _))<|Dd cX<|Dd aR<|Zz<|aH<|Rt<|Qq
theorem xF (A B:aE):Sub A (A++B):=fun j o h=>by rw [iR,h]
theorem aGr (n:Nat) (h1:1≤n) (h2:n≤8000) (H:aE) (k0:H.get 3000=none) (k1:H.get 3001=none) (k2:H.get 3002=none) (k3:H.get 3003=none):aK Tryz.prog 13 [iv (n:Int)] H (fun r H'=>r=.ref 3000 0 0 0∧H'=pJ (pK n)++H):=by
 refine(VX (aAs n h1 h2) (args':=[iv (n:Int)]) rfl (rfl:jM IG []=[]) (fun _ _ h=>by cases h) (fun _ _ h=>by cases h) (by intro a ha;rw [aHu] at ha;subst ha;exact .pv _) ?_).mono ?_
 ·rintro r K ⟨rfl,rfl⟩ id hid;rw [tF] at hid;rcases aGF hid with rfl|rfl|rfl|rfl
  ·exact .inr k0
  ·exact .inr k1
  ·exact .inr k2
  exact .inr k3
 rintro r H' ⟨r0,K,⟨rfl,rfl⟩,rfl,rfl⟩;exact⟨rfl,by rw [tF]⟩
theorem aFy {d:DSt} {N k a n:Nat} {C:CT} (hc:Calm d N) (hI:SInv d.cells k a n C) (hN:4≤N) (hk:k=(N - 2) / 2) (H:aE) (hs:Sub (pJ d) H) (k4:H.get 3100=none) (k5:H.get 3101=none) :
  aK Tryz.prog 12 [.ref 3000 0 0 0] H (fun r H'=>r=.tup [.ref 3100 0 0 0,iv 0]∧∃ l c,fI l c∧gX l∧l.length≤46*n∧(∀ x,eN l x=C x)∧H'=RU d (EH k a n false) (cB l c)++H):=by
 refine(VX (C4 hc hI hN hk) (args':=[.ref 3000 0 0 0]) rfl (tF d) hs (zA d) (by simp;rfl) ?_).mono ?_
 ·rintro r K ⟨rfl,l,c,q1,q2,q3,q4,rfl⟩ id hid;rw [xM] at hid;rcases aFM hid with rfl|rfl|rfl|rfl|rfl|rfl
  ·exact .inl rfl
  ·exact .inl rfl
  ·exact .inl rfl
  ·exact .inl rfl
  ·exact .inr k4
  exact .inr k5
 rintro r H' ⟨r0,K,⟨rfl,l,c,q1,q2,q3,q4,rfl⟩,rfl,rfl⟩;exact⟨rfl,l,c,q1,q2,q3,q4,by rw [xM]⟩
theorem R4 (d:DSt) (k a n:Nat) (b:Bool) (l l2:cN) (c c2:Nat):jM IG ((950,cB l2 c2)::sH d (dU k a n b) (cB l c))=(950,cB l2 c2)::RU d (EH k a n b) (cB l c):=by have h:=xM d k a n b l c;show (IG 950,lU IG (cB l2 c2))::jM IG (sH d (dU k a n b) (cB l c))=_;rw [h,xK];rfl
theorem YM (d:DSt) (k a n:Nat) (b:Bool) (l l2:cN) (c c2:Nat):bT ((950,cB l2 c2)::RU d (EH k a n b) (cB l c)):=(bT.ofL ⟨(by exact aU _ _ _),(by exact qK _ _ rfl rfl rfl),(by exact aG _ _),(by exact aD _ _ _),(by exact aP _ _),(by exact LZ rfl rfl),(by exact aU _ _ _),trivial⟩)
theorem aGt {d:DSt} {o m o2:Ob} {id:Nat} (h:(aE.get ((950,o2)::RU d o m) id).isSome=true):id=950∨id=3000∨id=3001∨id=3002∨id=3003∨id=3100∨id=3101:=by
 by_cases e:id=950
 ·exact .inl e
 rw [get_cons_other _ _ e] at h;exact .inr (aFM h)
theorem aDy {N k:Nat} {tl:List ByteArray} {d:DSt} {a n:Nat} {l:cN} {c:Nat} {C:CT} (h:St N k tl d a n l c C) (hk:k < 4000) (l2:cN) (c2:Nat) (P:List ByteArray) (hst2:fI l2 c2) (hnd2:gX l2) (hl2:l2.length≤1000) (hP:P.length≤1000) (H:aE) (hs:Sub ((950,cB l2 c2)::RU d (EH k a n false) (cB l c)) H) :
  aK Tryz.prog 14 [.ref 3100 0 0 0,.mp 950 0,.pv (aX P)] H (fun r H'=>r=iv (JA k n l2 P)∧∃ d' n' l' c',St N k tl d' a n' l' c' (if JA k n l2 P=0 then vC C l2 (fN P)else C)∧n'=(if tX k n false l2 P = -1 then n+dD (bM l2 (fN P))else n)∧H'=(950,cB l2 c2)::RU d' (EH k a n' false) (cB l' c')++H):=by
 refine(VX (sD h hk l2 c2 P hst2 hnd2 hl2 hP) (args':=[.ref 3100 0 0 0,.mp 950 0,.pv (aX P)]) rfl (R4 d k a n false l l2 c c2) hs (YM _ _ _ _ _ _ _ _ _) (by simp;exact⟨rfl,rfl⟩) ?_).mono ?_
 ·rintro r K ⟨rfl,d',n',l',c',q1,q2,rfl⟩ id hid;rw [R4] at hid;rcases aGt hid with rfl|rfl|rfl|rfl|rfl|rfl|rfl<;>exact .inl rfl
 rintro r H' ⟨r0,K,⟨rfl,d',n',l',c',q1,q2,rfl⟩,rfl,rfl⟩;exact⟨rfl,d',n',l',c',q1,q2,by rw [R4]⟩
theorem aEr {N k:Nat} {tl:List ByteArray} {d:DSt} {a n:Nat} {l:cN} {c:Nat} {C:CT} (h:St N k tl d a n l c C) (hk:k < 4000) (H:aE) (hs:Sub (RU d (EH k a n false) (cB l c)) H) :
  aK Tryz.prog 21 [.ref 3100 0 0 0] H (fun r H'=>r=iv (scE k l)∧∃ d' a' n',St N k tl d' a' n' l c C∧(scE k l=0→d'.cells=oJ k (cE l) tl)∧H'=RU d' (EH k a' n' false) (cB l c)++H):=by
 refine(VX (FU h hk) (args':=[.ref 3100 0 0 0]) rfl (xM d k a n false l c) hs (RT _ _ _ _ _ _ _) (by simp;rfl) ?_).mono ?_
 ·rintro r K ⟨rfl,d',a',n',q1,q2,rfl⟩ id hid;rw [xM] at hid;rcases aFM hid with rfl|rfl|rfl|rfl|rfl|rfl<;>exact .inl rfl
 rintro r H' ⟨r0,K,⟨rfl,d',a',n',q1,q2,rfl⟩,rfl,rfl⟩;exact⟨rfl,d',a',n',q1,q2,by rw [xM]⟩
theorem aGo (d:DSt) (hd:DOk d) (H:aE) (hs:Sub (pJ d) H):aK Tryz.prog 22 [.ref 3000 0 0 0] H (fun r H'=>r=sv (sK d)∧H'=H):=by have h:=aK.ren (ρ:=IG) T7 (UL d hd) (args':=[.ref 3000 0 0 0]) (r':=sv (sK d)) rfl (tF d) rfl (tF d);exact aK.frameS h hs (zA d) (by simp;rfl)
abbrev tA:ByteArray:=⟨#[97]⟩
abbrev tB:ByteArray:=⟨#[98]⟩
abbrev tC:ByteArray:=⟨#[99]⟩
abbrev t1:ByteArray:=⟨#[49]⟩
abbrev t2:ByteArray:=⟨#[50]⟩
abbrev kB:cN×Nat:=fJ [(tB,t2)]
abbrev ZH:cN×Nat:=fJ [(tA,t1),(tB,t2)]
theorem aDe (x:ByteArray):eN kB.1 x=if tB=x then some t2 else none:=by rw [SX];rfl
theorem aGG (x:ByteArray):eN ZH.1 x=if tB=x then some t2 else if tA=x then some t1 else none:=by
 rw [SX];show ((if tB=x then some t2 else none).orElse fun _=>if tA=x then some t1 else none)=_
 split<;>rfl
theorem aGS (x:ByteArray):vC (vC (fun _=>none) ZH.1 (fN [])) [] (fN [tA]) x=eN kB.1 x:=by
 have hAB:¬ tB=tA:=by decide
 rw [vC,vC,sE,aHp aIH,aDe,aGG];by_cases h:x∈fN [tA]
 ·rw [aHq h];have:=sF.1 h;rw [aHu] at this;subst this;rw [aHp hAB]
 rw [aHp h];have hx:¬ tA=x:=fun e=>h (sF.2 (by rw [e];exact aHu.2 rfl));rw [aHp hx];show ((none:Option ByteArray).orElse fun _=>(if tB=x then some t2 else none).orElse fun _=>none)=_;by_cases h2:tB=x
 ·rw [aHq h2];rfl
 rw [aHp h2];rfl
theorem aGz (x:ByteArray):vC (fun _=>none) kB.1 (fN []) x=eN kB.1 x:=by
 rw [vC,sE,aHp aIH,aDe];by_cases h2:tB=x
 ·rw [aHq h2];rfl
 rw [aHp h2];rfl
theorem aDd:eT kB.1=[tB]:=WG (List.pairwise_singleton _ _)
theorem PW:dD (cE kB.1)≤1:=by
 have h:cE kB.1=bM kB.1 []:=aHp (by decide);rw [h];exact sY (fun p hp=>by
  have:=wL hp;simp only [aHu,Prod.mk.injEq] at this;rw [this.1,this.2];exact⟨aHx 1,aHx 1⟩) (fun s hs=>by cases hs) (by decide)
theorem VS:JA 9 0 ZH.1 []=0:=HR (by decide) (by
 have h:dD (bM ZH.1 (fN []))≤1:=sY (fun p hp=>by
  have:=wL hp;simp only [aID,aIH,or_false,Prod.mk.injEq] at this;rcases this with⟨e1,e2⟩|⟨e1,e2⟩<;>rw [e1,e2]<;>exact⟨aHx 1,aHx 1⟩) (fun s hs=>by rw [sE] at hs;cases hs) (by rw [sE];decide)
 omega)
theorem aGD:(if tX 9 0 false ZH.1 [] = -1 then 0+dD (bM ZH.1 (fN []))else 0)≤1:=by
 have h:dD (bM ZH.1 (fN []))≤1:=sY (fun p hp=>by
  have:=wL hp;simp only [aID,aIH,or_false,Prod.mk.injEq] at this;rcases this with⟨e1,e2⟩|⟨e1,e2⟩<;>rw [e1,e2]<;>exact⟨aHx 1,aHx 1⟩) (fun s hs=>by rw [sE] at hs;cases hs) (by rw [sE];decide)
 split<;>omega
theorem aEZ:dD (bM [] (fN [tA]))≤1:=sY (fun p hp=>by cases hp) (fun s hs=>by
  have:=sF.1 hs;rw [aHu] at this;rw [this];exact aHx 1) (by have:=yI [tA];have e:([tA]:List ByteArray).length=1:=rfl;have e0:([]:cN).length=0:=rfl;omega)
theorem VR {n:Nat} (h:n≤1):JA 9 n [] [tA]=0:=HR (by decide) (by have:=aEZ;omega)
theorem aGC {n:Nat} (h:n≤1):(if tX 9 n false [] [tA] = -1 then n+dD (bM [] (fN [tA]))else n)≤2:=by
 have:=aEZ
 split<;>omega
theorem VQ:JA 9 0 kB.1 []=0:=HR (by decide) (by
 have h:dD (bM kB.1 (fN []))≤1:=sY (fun p hp=>by
  have:=wL hp;simp only [aHu,Prod.mk.injEq] at this;rw [this.1,this.2];exact⟨aHx 1,aHx 1⟩) (fun s hs=>by rw [sE] at hs;cases hs) (by rw [sE];decide)
 omega)
theorem TZ (n:Nat):(ofL (zB n)).size=n:=by rw [bO,zB,List.length_replicate]
theorem zO (k v:ByteArray):(fJ [(k,v)]).1=[(k,v,0)]:=rfl
theorem JE {k v:ByteArray} (hk:cR k=true):bX (fJ [(k,v)]).1 []=if(20000:Int) < (v.size:Int)then 2 else 0:=by
 rw [zO,bX];show (if(((!cR k||inB [] k)||false)||false)=true then(1:Int)else if(decide ((20000:Int) < (v.size:Int))||false)=true then 2 else 0)=_;rw [hk];show (if false=true then(1:Int)else if(decide ((20000:Int) < (v.size:Int))||false)=true then 2 else 0)=_;rw [aHp Bool.false_ne_true,Bool.or_false];by_cases h:(20000:Int) < (v.size:Int)
 ·rw [aHq (decide_eq_true h),aHq h]
 rw [aHp (by rw [decide_eq_false h];decide),aHp h]
theorem eH {n:Nat} {v:ByteArray} (hv:v.size=20001):JA 9 n (fJ [(tC,v)]).1 []=2:=by
 have hw:bX (fJ [(tC,v)]).1 []=2:=by rw [JE (by decide),hv];rfl
 rw [YG (by rw [hw];decide),hw]
theorem eI {n:Nat} {v:ByteArray} (hv:v.size=500):JA 9 n (fJ [(tC,v)]).1 []=21:=by
 have hw:bX (fJ [(tC,v)]).1 []=0:=by rw [JE (by decide),hv];rfl
 refine aBf hw (by rw [zO];exact Nat.zero_lt_one) ?_;have h:=Z0 (l:=(fJ [(tC,v)]).1) (P:=fN []) (x:=tC) (by rw [zO];exact aHu.2 rfl);have hg:fO (fJ [(tC,v)]).1 tC=v:=by
  rw [zO];show (if tC=tC then v else _)=v;rw [aHq rfl]
 rw [hg,hv] at h;rw [dD];omega
end Go.Proofs.YtmkgeogoojcciaaGreatDoor
