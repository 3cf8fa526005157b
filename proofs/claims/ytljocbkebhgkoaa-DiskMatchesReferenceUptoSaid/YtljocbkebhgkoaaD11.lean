/-
  CONTRACT: planispherelaw46.head: the chapter's examples hold. Conditions: none.
-/
import Derived.Test.YtljocbkebhgkoaaD10
set_option linter.unusedVariables false
set_option linter.unusedSimpArgs false
set_option maxRecDepth 100000
namespace Go.Proofs.Ytljocbkebhgkoaa
open Go.Abs

def tX (b : UInt8) : ByteArray := aText ⟨0, 0, 0, ⟨#[b]⟩, false, 0⟩
def hA0 : DSt := dNew 2
def hA1 : DSt := dWrite hA0 0 (tX 97)
def hA2 : DSt := dSync hA1
def hA3 : DSt := dWrite hA2 0 (tX 98)
def hA4 : DSt := dFail hA3 0 2
def hA5 : DSt := dSync hA4
def hA6 : DSt := dStart hA5
def hA7 : DSt := dWrite hA6 1 ⟨#[115, 104, 111, 114, 116]⟩
def hB0 : DSt := dNew 1
def hB1 : DSt := dWrite hB0 0 (tX 97)
def hB2 : DSt := dSync hB1
def hB3 : DSt := dRot hB2 0 1 3
def hB4 : DSt := dWrite hB3 0 (tX 98)
def hC0 : DSt := dNew 1
def hC1 : DSt := dArm hC0 1 1 2
def hC2 : DSt := dWrite hC1 0 (tX 97)
def hC3 : DSt := dWrite hC2 0 (tX 98)
def hC4 : DSt := dStart hC3
theorem tX_size (b : UInt8) : (tX b).size = 64 := by
  have e : (decide ((⟨#[b]⟩ : ByteArray) = sNil)) = false := by
    rw [decide_eq_false_iff_not]
    intro h
    have := congrArg ByteArray.size h
    cases this
  show (aText _).size = 64
  unfold aText
  simp only [e, Bool.or_self, Bool.false_eq_true, if_false]
  exact fillT_size (show 0 < 1 by decide)
theorem iA0 : DInv hA0 2 0 := inv_new (by decide) (by decide)
theorem iA1 : DInv hA1 2 1 := inv_write iA0 (by decide) _ _
theorem iA2 : DInv hA2 2 1 := inv_sync iA1
theorem iA3 : DInv hA3 2 2 := inv_write iA2 (by decide) _ _
theorem iA4 : DInv hA4 2 2 := inv_fail iA3 _ _
theorem iA5 : DInv hA5 2 2 := inv_sync iA4
theorem iA6 : DInv hA6 2 2 := inv_start iA5
theorem iB0 : DInv hB0 1 0 := inv_new (by decide) (by decide)
theorem iB1 : DInv hB1 1 1 := inv_write iB0 (by decide) _ _
theorem iB2 : DInv hB2 1 1 := inv_sync iB1
theorem iB3 : DInv hB3 1 1 := inv_rot iB2 _ _ _
theorem iB4 : DInv hB4 1 2 := inv_write iB3 (by decide) _ _
theorem iC0 : DInv hC0 1 0 := inv_new (by decide) (by decide)
theorem iC1 : DInv hC1 1 0 := inv_arm iC0 _ _ _ (by decide)
theorem iC2 : DInv hC2 1 1 := inv_write iC1 (by decide) _ _
theorem iC3 : DInv hC3 1 2 := inv_write iC2 (by decide) _ _
theorem iC4 : DInv hC4 1 2 := inv_start iC3
theorem vA1 : dWriteE hA0 0 (tX 97) = 0 := by kernel_rfl
theorem vA2 : dSyncE hA1 = 0 := by kernel_rfl
theorem vA3 : dWriteE hA2 0 (tX 98) = 0 := by kernel_rfl
theorem vA3r : dRead hA3 0 = tX 98 := by kernel_rfl
theorem vA3e : dReadE hA3 0 = 0 := by kernel_rfl
theorem vA5 : dSyncE hA4 = 22 := by kernel_rfl
theorem vA6r : dRead hA6 0 = ⟨#[98, 98]⟩ ++ (tX 97).extract 2 (tX 97).size := by kernel_rfl
theorem vA6e : dReadE hA6 0 = 0 := by kernel_rfl
theorem vA6r1 : dRead hA6 1 = tX 0 := by kernel_rfl
theorem vA6e1 : dReadE hA6 1 = 0 := by kernel_rfl
theorem vA6e2 : dReadE hA6 2 = 1 := by kernel_rfl
theorem vA7 : dWriteE hA6 1 ⟨#[115, 104, 111, 114, 116]⟩ = 1 := by kernel_rfl
theorem vB1 : dWriteE hB0 0 (tX 97) = 0 := by kernel_rfl
theorem vB2 : dSyncE hB1 = 0 := by kernel_rfl
theorem vB3r : dRead hB3 0 = ⟨#[97, 98]⟩ ++ (tX 97).extract 2 (tX 97).size := by kernel_rfl
theorem vB3e : dReadE hB3 0 = 0 := by kernel_rfl
theorem vB4 : dWriteE hB3 0 (tX 98) = 0 := by kernel_rfl
theorem vB4r : dRaw hB4 = ⟨#[97, 98]⟩ ++ (tX 97).extract 2 (tX 97).size := by kernel_rfl
theorem vC2 : dWriteE hC1 0 (tX 97) = 0 := by kernel_rfl
theorem vC3 : dWriteE hC2 0 (tX 98) = 22 := by kernel_rfl
theorem vC4r : dRead hC4 0 = ⟨#[98, 98]⟩ ++ (tX 97).extract 2 (tX 97).size := by kernel_rfl
theorem vC4e : dReadE hC4 0 = 0 := by kernel_rfl
theorem fillX_c (b : UInt8) (H : Heap) : ACalls Try.prog 38 [sv ⟨#[b]⟩] H (fun r H' => r = sv (tX b) ∧ H' = H) := fill_c ⟨#[b]⟩ H (show 1 ≤ 1048576 by decide)
theorem newF_c (n : Nat) (H : Heap) (h1 : 1 ≤ n) (h2 : n ≤ 8000) (g0 : H.get 1000 = none) (g1 : H.get 1001 = none) (g2 : H.get 1002 = none) (g3 : H.get 1003 = none) :
    ACalls Try.prog 23 [iv (n : Int)] H (fun r H' => r = .ref 1000 0 0 0 ∧ H' = diskH (dNew n) ++ H) := by
  refine (new_c n h1 h2).frame (fun _ _ h => by cases h) (fun _ _ h => by cases h) (by simp) (fun id h => ?_)
  right
  simp only [diskH, Heap.get] at h
  cases e0 : Nat.beq 1000 id with
  | true => rw [← Nat.eq_of_beq_eq_true e0]; exact g0
  | false =>
    cases e1 : Nat.beq 1001 id with
    | true => rw [← Nat.eq_of_beq_eq_true e1]; exact g1
    | false =>
      cases e2 : Nat.beq 1002 id with
      | true => rw [← Nat.eq_of_beq_eq_true e2]; exact g2
      | false =>
        cases e3 : Nat.beq 1003 id with
        | true => rw [← Nat.eq_of_beq_eq_true e3]; exact g3
        | false => simp [e0, e1, e2, e3] at h
section
variable {s s' : DSt} {n m : Nat} (i : DInv s n m)
include i
theorem cW {k e : Int} {t : ByteArray} (hm : m < 1048576) (he : dWriteE s k t = e) (hs : dWrite s k t = s') : ACalls Try.prog 33 [.ref 1000 0 0 0, iv k, sv t] (diskH s) (fun r H' => r = iv e ∧ H' = diskH s') := by
  subst he hs; exact write_c s k t i.ok i.arm (by have := i.q; omega)
theorem cS {e : Int} (he : dSyncE s = e) (hs : dSync s = s') : ACalls Try.prog 31 [.ref 1000 0 0 0] (diskH s) (fun r H' => r = iv e ∧ H' = diskH s') := by
  subst he hs; exact sync_c s i.ok i.arm
theorem cR {k e : Int} {t : ByteArray} (ht : dRead s k = t) (he : dReadE s k = e) : ACalls Try.prog 28 [.ref 1000 0 0 0, iv k] (diskH s) (fun r H' => r = .tup [sv t, iv e] ∧ H' = diskH s) := by
  subst he ht; exact read_c s k i.ok
theorem cRaw {t : ByteArray} (ht : dRaw s = t) : ACalls Try.prog 41 [.ref 1000 0 0 0] (diskH s) (fun r H' => r = sv t ∧ H' = diskH s) := by
  subst ht; exact raw_c s i.ok
end
theorem head_c (H : Heap) : ACalls Try.prog 21 [] H (fun r H' => r = bv true ∧ H' = H) := by
  refine ACalls.pure ?_ (by simp) H
  obtain ⟨a, ha⟩ : ∃ a, a = tX 97 := ⟨_, rfl⟩
  obtain ⟨b, hb⟩ : ∃ a, a = tX 98 := ⟨_, rfl⟩
  obtain ⟨z, hz⟩ : ∃ a, a = tX 0 := ⟨_, rfl⟩
  obtain ⟨ab, hab⟩ : ∃ x, (⟨#[97, 98]⟩ : ByteArray) ++ a.extract 2 a.size = x := ⟨_, rfl⟩
  obtain ⟨bb, hbb⟩ : ∃ x, (⟨#[98, 98]⟩ : ByteArray) ++ a.extract 2 a.size = x := ⟨_, rfl⟩
  have h64 : a.size = 64 := by rw [ha]; exact tX_size 97
  have hsz : ∀ c d : UInt8, (⟨#[c, d]⟩ : ByteArray).size + (a.extract 2 a.size).size ≤ 9223372036854775807 := fun c d => by
    have e1 : (⟨#[c, d]⟩ : ByteArray).size = 2 := rfl
    have e2 : (a.extract 2 a.size).size ≤ 64 := by rw [ByteArray.size_extract]; omega
    omega
  have fa : ∀ H, ACalls Try.prog 38 [sv ⟨#[97]⟩] H (fun r H' => r = sv a ∧ H' = H) := fun H => by rw [ha]; exact fillX_c 97 H
  have fb : ∀ H, ACalls Try.prog 38 [sv ⟨#[98]⟩] H (fun r H' => r = sv b ∧ H' = H) := fun H => by rw [hb]; exact fillX_c 98 H
  have fz : ∀ H, ACalls Try.prog 38 [sv ⟨#[0]⟩] H (fun r H' => r = sv z ∧ H' = H) := fun H => by rw [hz]; exact fillX_c 0 H
  have wA1 := cW iA0 (by decide) vA1 (s' := hA1) rfl
  have wA3 := cW iA2 (by decide) vA3 (s' := hA3) rfl
  have wB1 := cW iB0 (by decide) vB1 (s' := hB1) rfl
  have wB4 := cW iB3 (by decide) vB4 (s' := hB4) rfl
  have wC2 := cW iC1 (by decide) vC2 (s' := hC2) rfl
  have wC3 := cW iC2 (by decide) vC3 (s' := hC3) rfl
  have rA3 := cR iA3 vA3r vA3e
  have rA6 := cR iA6 vA6r vA6e
  have rA61 := cR iA6 vA6r1 vA6e1
  have rB3 := cR iB3 vB3r vB3e
  have rB4 := cRaw iB4 vB4r
  have rC4 := cR iC4 vC4r vC4e
  rw [← ha] at wA1 wB1 wC2 rA6 rB3 rB4 rC4
  rw [← hb] at wA3 wB4 wC3 rA3
  rw [← hz] at rA61
  rw [hbb] at rA6 rC4
  rw [hab] at rB3 rB4
  clear ha hb hz
  have d1 : decide (ab = ab) = true := decide_eq_true rfl
  have d2 : decide (bb = bb) = true := decide_eq_true rfl
  have d3 : decide (b = b) = true := decide_eq_true rfl
  have d4 : decide (z = z) = true := decide_eq_true rfl
  have d5 : decide ((⟨#[]⟩ : ByteArray) = ⟨#[]⟩) = true := decide_eq_true rfl
  refine ACalls.body Try.func21 rfl Try.ntmps21 (Nat.le_of_ble_eq_true rfl) ?_
  refine awp_seq ?_
  refine awp_region ?_
  refine al_d rfl rfl rfl (by exact opd_assign rfl rfl) ?_
  refine al_nil ?_
  refine awp_seq ?_
  refine awp_region ?_
  refine al_d rfl rfl rfl (by exact opr_call rfl rfl Try.call23 rfl (newF_c 2 _ (by decide) (by decide) rfl rfl rfl rfl)) ?_
  refine al_d rfl rfl rfl (by exact opd_assign rfl rfl) ?_
  refine al_nil ?_
  refine awp_seq ?_
  refine awp_region ?_
  refine al_d rfl rfl rfl (by exact opd_move rfl rfl) ?_
  refine al_d rfl rfl rfl (by exact opr_call rfl rfl Try.call38 rfl (fa _)) ?_
  refine al_d rfl rfl rfl (by exact opr_call rfl rfl Try.call33 rfl (disk_frame (wA1) _ ⟨rfl, rfl, rfl, rfl, trivial⟩ (by simp; rfl))) ?_
  refine al_d rfl rfl rfl (by exact opd_assign rfl rfl) ?_
  refine al_nil ?_
  refine awp_seq ?_
  refine awp_region ?_
  refine al_d rfl rfl rfl (by exact opd_move rfl rfl) ?_
  refine al_d rfl rfl rfl (by exact opr_call rfl rfl Try.call31 rfl (disk_frame (cS iA1 vA2 rfl) _ ⟨rfl, rfl, rfl, rfl, trivial⟩ (by simp; rfl))) ?_
  refine al_d rfl rfl rfl (by exact opd_assign rfl rfl) ?_
  refine al_nil ?_
  refine awp_seq ?_
  refine awp_region ?_
  refine al_d rfl rfl rfl (by exact opd_move rfl rfl) ?_
  refine al_d rfl rfl rfl (by exact opr_call rfl rfl Try.call38 rfl (fb _)) ?_
  refine al_d rfl rfl rfl (by exact opr_call rfl rfl Try.call33 rfl (disk_frame (wA3) _ ⟨rfl, rfl, rfl, rfl, trivial⟩ (by simp; rfl))) ?_
  refine al_d rfl rfl rfl (by exact opd_assign rfl rfl) ?_
  refine al_nil ?_
  refine awp_seq ?_
  refine awp_region ?_
  refine al_d rfl rfl rfl (by exact opd_move rfl rfl) ?_
  refine al_d rfl rfl rfl (by exact opr_call rfl rfl Try.call28 rfl (disk_frame (rA3) _ ⟨rfl, rfl, rfl, rfl, trivial⟩ (by simp; rfl))) ?_
  refine al_d rfl rfl rfl (by exact opd_move rfl rfl) ?_
  refine al_d rfl rfl rfl (by exact opd_extract rfl rfl rfl) ?_
  refine al_d rfl rfl rfl (by exact opd_extract rfl rfl rfl) ?_
  refine al_d rfl rfl rfl (by exact opd_assign rfl rfl) ?_
  refine al_d rfl rfl rfl (by exact opd_assign rfl rfl) ?_
  refine al_nil ?_
  refine awp_seq ?_
  refine awp_region ?_
  refine al_d rfl rfl rfl (by exact opd_move rfl rfl) ?_
  refine al_d rfl rfl rfl (by exact opr_call rfl rfl Try.call35 rfl (disk_frame (fail_c hA3 0 2 iA3.ok) _ ⟨rfl, rfl, rfl, rfl, trivial⟩ (by simp; rfl))) ?_
  refine al_nil ?_
  refine awp_seq ?_
  refine awp_region ?_
  refine al_d rfl rfl rfl (by exact opd_move rfl rfl) ?_
  refine al_d rfl rfl rfl (by exact opr_call rfl rfl Try.call31 rfl (disk_frame (cS iA4 vA5 rfl) _ ⟨rfl, rfl, rfl, rfl, trivial⟩ (by simp; rfl))) ?_
  refine al_d rfl rfl rfl (by exact opd_assign rfl rfl) ?_
  refine al_nil ?_
  refine awp_seq ?_
  refine awp_region ?_
  refine al_d rfl rfl rfl (by exact opd_move rfl rfl) ?_
  refine al_d rfl rfl rfl (by exact opr_call rfl rfl Try.call30 rfl (disk_frame (start_c hA5) _ ⟨rfl, rfl, rfl, rfl, trivial⟩ (by simp; rfl))) ?_
  refine al_nil ?_
  refine awp_seq ?_
  refine awp_region ?_
  refine al_d rfl rfl rfl (by exact opd_move rfl rfl) ?_
  refine al_d rfl rfl rfl (by exact opr_call rfl rfl Try.call28 rfl (disk_frame (rA6) _ ⟨rfl, rfl, rfl, rfl, trivial⟩ (by simp; rfl))) ?_
  refine al_d rfl rfl rfl (by exact opd_move rfl rfl) ?_
  refine al_d rfl rfl rfl (by exact opd_extract rfl rfl rfl) ?_
  refine al_d rfl rfl rfl (by exact opd_extract rfl rfl rfl) ?_
  refine al_d rfl rfl rfl (by exact opd_assign rfl rfl) ?_
  refine al_d rfl rfl rfl (by exact opd_assign rfl rfl) ?_
  refine al_nil ?_
  refine awp_seq ?_
  refine awp_region ?_
  refine al_d rfl rfl rfl (by exact opd_move rfl rfl) ?_
  refine al_d rfl rfl rfl (by exact opr_call rfl rfl Try.call28 rfl (disk_frame (rA61) _ ⟨rfl, rfl, rfl, rfl, trivial⟩ (by simp; rfl))) ?_
  refine al_d rfl rfl rfl (by exact opd_move rfl rfl) ?_
  refine al_d rfl rfl rfl (by exact opd_extract rfl rfl rfl) ?_
  refine al_d rfl rfl rfl (by exact opd_extract rfl rfl rfl) ?_
  refine al_d rfl rfl rfl (by exact opd_assign rfl rfl) ?_
  refine al_d rfl rfl rfl (by exact opd_assign rfl rfl) ?_
  refine al_nil ?_
  refine awp_seq ?_
  refine awp_region ?_
  refine al_d rfl rfl rfl (by exact opd_move rfl rfl) ?_
  refine al_d rfl rfl rfl (by exact opr_call rfl rfl Try.call28 rfl (disk_frame (cR iA6 rfl vA6e2) _ ⟨rfl, rfl, rfl, rfl, trivial⟩ (by simp; rfl))) ?_
  refine al_d rfl rfl rfl (by exact opd_move rfl rfl) ?_
  refine al_d rfl rfl rfl (by exact opd_extract rfl rfl rfl) ?_
  refine al_d rfl rfl rfl (by exact opd_extract rfl rfl rfl) ?_
  refine al_d rfl rfl rfl (by exact opd_assign rfl rfl) ?_
  refine al_d rfl rfl rfl (by exact opd_assign rfl rfl) ?_
  refine al_nil ?_
  refine awp_seq ?_
  refine awp_region ?_
  refine al_d rfl rfl rfl (by exact opd_move rfl rfl) ?_
  refine al_d rfl rfl rfl (by exact opr_call rfl rfl Try.call33 rfl (disk_frame (cW iA6 (by decide) vA7 rfl) _ ⟨rfl, rfl, rfl, rfl, trivial⟩ (by simp; rfl))) ?_
  refine al_d rfl rfl rfl (by exact opd_assign rfl rfl) ?_
  refine al_nil ?_
  refine awp_seq ?_
  refine awp_region ?_
  refine al_d rfl rfl rfl (by exact opd_assign rfl rfl) ?_
  refine al_nil ?_
  refine awp_seq ?_
  refine awp_region ?_
  refine al_d rfl rfl rfl (by exact opd_move rfl rfl) ?_
  refine al_d rfl rfl rfl (by exact opr_call rfl rfl Try.call35 rfl (nfail_c _ _ _)) ?_
  refine al_nil ?_
  refine awp_seq ?_
  refine awp_region ?_
  refine al_d rfl rfl rfl (by exact opd_move rfl rfl) ?_
  refine al_d rfl rfl rfl (by exact opr_call rfl rfl Try.call30 rfl (nstart_c _)) ?_
  refine al_nil ?_
  refine awp_seq ?_
  refine awp_region ?_
  refine al_d rfl rfl rfl (by exact opd_move rfl rfl) ?_
  refine al_d rfl rfl rfl (by exact opr_call rfl rfl Try.call39 rfl (narm_c _ _ _ _)) ?_
  refine al_nil ?_
  refine awp_seq ?_
  refine awp_region ?_
  refine al_d rfl rfl rfl (by exact opd_move rfl rfl) ?_
  refine al_d rfl rfl rfl (by exact opr_call rfl rfl Try.call40 rfl (nrot_c _ _ _ _)) ?_
  refine al_nil ?_
  refine awp_seq ?_
  -- before the slot
  refine AWp.ent (E' := [(2, iv 0), (3, iv 0), (4, iv 0), (5, sv b), (6, iv 0), (7, iv 22), (8, sv bb), (9, iv 0), (10, sv z), (11, iv 0), (13, iv 1), (14, iv 1), (15, .pv .nilp)]) (H' := []) (Ent.wk ⟨⟨_, rfl, rfl⟩, (by first | (simp; done) | (simp; rfl) | exact clo_map _ _ _ | exact clo_brows _ _ | exact disk_clo _ _ rfl rfl rfl | exact arm_clo _ _ | (simp; exact ⟨rfl, rfl⟩) | (simp; exact ⟨rfl, rfl, rfl⟩) | exact arm_clo .never _ | exact arm_clo (.off _ _ _) _ | exact arm_clo (.on _ _ _) _), ⟨_, rfl, rfl⟩, (by first | (simp; done) | (simp; rfl) | exact clo_map _ _ _ | exact clo_brows _ _ | exact disk_clo _ _ rfl rfl rfl | exact arm_clo _ _ | (simp; exact ⟨rfl, rfl⟩) | (simp; exact ⟨rfl, rfl, rfl⟩) | exact arm_clo .never _ | exact arm_clo (.off _ _ _) _ | exact arm_clo (.on _ _ _) _), ⟨_, rfl, rfl⟩, (by first | (simp; done) | (simp; rfl) | exact clo_map _ _ _ | exact clo_brows _ _ | exact disk_clo _ _ rfl rfl rfl | exact arm_clo _ _ | (simp; exact ⟨rfl, rfl⟩) | (simp; exact ⟨rfl, rfl, rfl⟩) | exact arm_clo .never _ | exact arm_clo (.off _ _ _) _ | exact arm_clo (.on _ _ _) _), ⟨_, rfl, rfl⟩, (by first | (simp; done) | (simp; rfl) | exact clo_map _ _ _ | exact clo_brows _ _ | exact disk_clo _ _ rfl rfl rfl | exact arm_clo _ _ | (simp; exact ⟨rfl, rfl⟩) | (simp; exact ⟨rfl, rfl, rfl⟩) | exact arm_clo .never _ | exact arm_clo (.off _ _ _) _ | exact arm_clo (.on _ _ _) _), ⟨_, rfl, rfl⟩, (by first | (simp; done) | (simp; rfl) | exact clo_map _ _ _ | exact clo_brows _ _ | exact disk_clo _ _ rfl rfl rfl | exact arm_clo _ _ | (simp; exact ⟨rfl, rfl⟩) | (simp; exact ⟨rfl, rfl, rfl⟩) | exact arm_clo .never _ | exact arm_clo (.off _ _ _) _ | exact arm_clo (.on _ _ _) _), ⟨_, rfl, rfl⟩, (by first | (simp; done) | (simp; rfl) | exact clo_map _ _ _ | exact clo_brows _ _ | exact disk_clo _ _ rfl rfl rfl | exact arm_clo _ _ | (simp; exact ⟨rfl, rfl⟩) | (simp; exact ⟨rfl, rfl, rfl⟩) | exact arm_clo .never _ | exact arm_clo (.off _ _ _) _ | exact arm_clo (.on _ _ _) _), ⟨_, rfl, rfl⟩, (by first | (simp; done) | (simp; rfl) | exact clo_map _ _ _ | exact clo_brows _ _ | exact disk_clo _ _ rfl rfl rfl | exact arm_clo _ _ | (simp; exact ⟨rfl, rfl⟩) | (simp; exact ⟨rfl, rfl, rfl⟩) | exact arm_clo .never _ | exact arm_clo (.off _ _ _) _ | exact arm_clo (.on _ _ _) _), ⟨_, rfl, rfl⟩, (by first | (simp; done) | (simp; rfl) | exact clo_map _ _ _ | exact clo_brows _ _ | exact disk_clo _ _ rfl rfl rfl | exact arm_clo _ _ | (simp; exact ⟨rfl, rfl⟩) | (simp; exact ⟨rfl, rfl, rfl⟩) | exact arm_clo .never _ | exact arm_clo (.off _ _ _) _ | exact arm_clo (.on _ _ _) _), ⟨_, rfl, rfl⟩, (by first | (simp; done) | (simp; rfl) | exact clo_map _ _ _ | exact clo_brows _ _ | exact disk_clo _ _ rfl rfl rfl | exact arm_clo _ _ | (simp; exact ⟨rfl, rfl⟩) | (simp; exact ⟨rfl, rfl, rfl⟩) | exact arm_clo .never _ | exact arm_clo (.off _ _ _) _ | exact arm_clo (.on _ _ _) _), ⟨_, rfl, rfl⟩, (by first | (simp; done) | (simp; rfl) | exact clo_map _ _ _ | exact clo_brows _ _ | exact disk_clo _ _ rfl rfl rfl | exact arm_clo _ _ | (simp; exact ⟨rfl, rfl⟩) | (simp; exact ⟨rfl, rfl, rfl⟩) | exact arm_clo .never _ | exact arm_clo (.off _ _ _) _ | exact arm_clo (.on _ _ _) _), ⟨_, rfl, rfl⟩, (by first | (simp; done) | (simp; rfl) | exact clo_map _ _ _ | exact clo_brows _ _ | exact disk_clo _ _ rfl rfl rfl | exact arm_clo _ _ | (simp; exact ⟨rfl, rfl⟩) | (simp; exact ⟨rfl, rfl, rfl⟩) | exact arm_clo .never _ | exact arm_clo (.off _ _ _) _ | exact arm_clo (.on _ _ _) _), ⟨_, rfl, rfl⟩, (by first | (simp; done) | (simp; rfl) | exact clo_map _ _ _ | exact clo_brows _ _ | exact disk_clo _ _ rfl rfl rfl | exact arm_clo _ _ | (simp; exact ⟨rfl, rfl⟩) | (simp; exact ⟨rfl, rfl, rfl⟩) | exact arm_clo .never _ | exact arm_clo (.off _ _ _) _ | exact arm_clo (.on _ _ _) _), ⟨_, rfl, rfl⟩, (by first | (simp; done) | (simp; rfl) | exact clo_map _ _ _ | exact clo_brows _ _ | exact disk_clo _ _ rfl rfl rfl | exact arm_clo _ _ | (simp; exact ⟨rfl, rfl⟩) | (simp; exact ⟨rfl, rfl, rfl⟩) | exact arm_clo .never _ | exact arm_clo (.off _ _ _) _ | exact arm_clo (.on _ _ _) _), trivial⟩ trivial trivial) ?_
  refine awp_region ?_
  refine al_d rfl rfl rfl (by exact opr_call rfl rfl Try.call23 rfl (newF_c 1 _ (by decide) (by decide) rfl rfl rfl rfl)) ?_
  refine al_d rfl rfl rfl (by exact opd_assign rfl rfl) ?_
  refine al_nil ?_
  refine awp_seq ?_
  refine awp_region ?_
  refine al_d rfl rfl rfl (by exact opd_move rfl rfl) ?_
  refine al_d rfl rfl rfl (by exact opr_call rfl rfl Try.call38 rfl (fa _)) ?_
  refine al_d rfl rfl rfl (by exact opr_call rfl rfl Try.call33 rfl (disk_frame (wB1) _ ⟨rfl, rfl, rfl, rfl, trivial⟩ (by simp; rfl))) ?_
  refine al_nil ?_
  refine awp_seq ?_
  refine awp_region ?_
  refine al_d rfl rfl rfl (by exact opd_move rfl rfl) ?_
  refine al_d rfl rfl rfl (by exact opr_call rfl rfl Try.call31 rfl (disk_frame (cS iB1 vB2 rfl) _ ⟨rfl, rfl, rfl, rfl, trivial⟩ (by simp; rfl))) ?_
  refine al_nil ?_
  refine awp_seq ?_
  refine awp_region ?_
  refine al_d rfl rfl rfl (by exact opd_move rfl rfl) ?_
  refine al_d rfl rfl rfl (by exact opr_call rfl rfl Try.call40 rfl (disk_frame (rot_c hB2 0 1 3 iB2.ok) _ ⟨rfl, rfl, rfl, rfl, trivial⟩ (by simp; rfl))) ?_
  refine al_nil ?_
  refine awp_seq ?_
  refine awp_region ?_
  refine al_d rfl rfl rfl (by exact opd_move rfl rfl) ?_
  refine al_d rfl rfl rfl (by exact opr_call rfl rfl Try.call28 rfl (disk_frame (rB3) _ ⟨rfl, rfl, rfl, rfl, trivial⟩ (by simp; rfl))) ?_
  refine al_d rfl rfl rfl (by exact opd_move rfl rfl) ?_
  refine al_d rfl rfl rfl (by exact opd_extract rfl rfl rfl) ?_
  refine al_d rfl rfl rfl (by exact opd_extract rfl rfl rfl) ?_
  refine al_d rfl rfl rfl (by exact opd_assign rfl rfl) ?_
  refine al_d rfl rfl rfl (by exact opd_assign rfl rfl) ?_
  refine al_nil ?_
  refine awp_seq ?_
  refine awp_region ?_
  refine al_d rfl rfl rfl (by exact opd_move rfl rfl) ?_
  refine al_d rfl rfl rfl (by exact opr_call rfl rfl Try.call38 rfl (fb _)) ?_
  refine al_d rfl rfl rfl (by exact opr_call rfl rfl Try.call33 rfl (disk_frame (wB4) _ ⟨rfl, rfl, rfl, rfl, trivial⟩ (by simp; rfl))) ?_
  refine al_nil ?_
  refine awp_seq ?_
  refine awp_region ?_
  refine al_d rfl rfl rfl (by exact opd_move rfl rfl) ?_
  refine al_d rfl rfl rfl (by exact opd_eql rfl rfl rfl) ?_
  refine al_d rfl rfl rfl (by exact opd_move rfl rfl) ?_
  refine al_ond rfl rfl rfl (by first | rfl | assumption) rfl rfl (by exact opd_move rfl rfl) ?_
  refine al_ond rfl rfl rfl (by first | rfl | assumption) rfl rfl (by exact opr_call rfl rfl Try.call38 rfl (fa _)) ?_
  refine al_ond rfl rfl rfl (by first | rfl | assumption) rfl rfl (by exact opd_slice_str (l := 2) (h := a.size) rfl Try.underlying9 rfl rfl rfl (by omega) (by omega) rfl) ?_
  refine al_ond rfl rfl rfl (by first | rfl | assumption) rfl rfl (by exact opd_sadd rfl rfl rfl (hsz _ _) hab) ?_
  refine al_ond rfl rfl rfl (by first | rfl | assumption) rfl rfl (by exact opd_seql rfl rfl rfl) ?_
  refine al_d rfl rfl rfl (by exact (by first | exact opd_pick_t rfl rfl rfl | exact opd_pick_f rfl rfl rfl | exact opd_pickt rfl rfl (by assumption) rfl | exact opd_pickf rfl rfl (by assumption) rfl | exact opd_pick rfl rfl rfl)) ?_
  refine al_d rfl rfl rfl (by exact opd_move rfl rfl) ?_
  refine al_ond rfl rfl rfl (by first | rfl | assumption) rfl rfl (by exact opd_move rfl rfl) ?_
  refine al_ond rfl rfl rfl (by first | rfl | assumption) rfl rfl (by exact opr_call rfl rfl Try.call41 rfl (disk_frame (rB4) _ ⟨rfl, rfl, rfl, rfl, trivial⟩ (by simp; rfl))) ?_
  refine al_ond rfl rfl rfl (by first | rfl | assumption) rfl rfl (by exact opd_move rfl rfl) ?_
  refine al_ond rfl rfl rfl (by first | rfl | assumption) rfl rfl (by exact opd_seql rfl rfl rfl) ?_
  refine al_d rfl rfl rfl (by exact (by first | exact opd_pick_t rfl rfl rfl | exact opd_pick_f rfl rfl rfl | exact opd_pickt rfl rfl (by assumption) rfl | exact opd_pickf rfl rfl (by assumption) rfl | exact opd_pick rfl rfl rfl)) ?_
  refine al_d rfl rfl rfl (by exact opd_move rfl rfl) ?_
  refine al_ond rfl rfl rfl (by first | rfl | assumption) rfl rfl (by exact opd_move rfl rfl) ?_
  refine al_ond rfl rfl rfl (by first | rfl | assumption) rfl rfl (by exact opr_call rfl rfl Try.call41 rfl (nraw_c _)) ?_
  refine al_ond rfl rfl rfl (by first | rfl | assumption) rfl rfl (by exact opd_seql rfl rfl rfl) ?_
  refine al_d rfl rfl rfl (by exact (by first | exact opd_pick_t rfl rfl rfl | exact opd_pick_f rfl rfl rfl | exact opd_pickt rfl rfl (by assumption) rfl | exact opd_pickf rfl rfl (by assumption) rfl | exact opd_pick rfl rfl rfl)) ?_
  refine al_d rfl rfl rfl (by exact opd_assign rfl rfl) ?_
  refine al_nil ?_
  refine awp_seq ?_
  -- before the slot
  refine AWp.ent (E' := [(2, iv 0), (3, iv 0), (4, iv 0), (5, sv b), (6, iv 0), (7, iv 22), (8, sv bb), (9, iv 0), (10, sv z), (11, iv 0), (13, iv 1), (14, iv 1), (15, .pv .nilp), (19, bv true)]) (H' := []) (Ent.wk ⟨⟨_, rfl, rfl⟩, (by first | (simp; done) | (simp; rfl) | exact clo_map _ _ _ | exact clo_brows _ _ | exact disk_clo _ _ rfl rfl rfl | exact arm_clo _ _ | (simp; exact ⟨rfl, rfl⟩) | (simp; exact ⟨rfl, rfl, rfl⟩) | exact arm_clo .never _ | exact arm_clo (.off _ _ _) _ | exact arm_clo (.on _ _ _) _), ⟨_, rfl, rfl⟩, (by first | (simp; done) | (simp; rfl) | exact clo_map _ _ _ | exact clo_brows _ _ | exact disk_clo _ _ rfl rfl rfl | exact arm_clo _ _ | (simp; exact ⟨rfl, rfl⟩) | (simp; exact ⟨rfl, rfl, rfl⟩) | exact arm_clo .never _ | exact arm_clo (.off _ _ _) _ | exact arm_clo (.on _ _ _) _), ⟨_, rfl, rfl⟩, (by first | (simp; done) | (simp; rfl) | exact clo_map _ _ _ | exact clo_brows _ _ | exact disk_clo _ _ rfl rfl rfl | exact arm_clo _ _ | (simp; exact ⟨rfl, rfl⟩) | (simp; exact ⟨rfl, rfl, rfl⟩) | exact arm_clo .never _ | exact arm_clo (.off _ _ _) _ | exact arm_clo (.on _ _ _) _), ⟨_, rfl, rfl⟩, (by first | (simp; done) | (simp; rfl) | exact clo_map _ _ _ | exact clo_brows _ _ | exact disk_clo _ _ rfl rfl rfl | exact arm_clo _ _ | (simp; exact ⟨rfl, rfl⟩) | (simp; exact ⟨rfl, rfl, rfl⟩) | exact arm_clo .never _ | exact arm_clo (.off _ _ _) _ | exact arm_clo (.on _ _ _) _), ⟨_, rfl, rfl⟩, (by first | (simp; done) | (simp; rfl) | exact clo_map _ _ _ | exact clo_brows _ _ | exact disk_clo _ _ rfl rfl rfl | exact arm_clo _ _ | (simp; exact ⟨rfl, rfl⟩) | (simp; exact ⟨rfl, rfl, rfl⟩) | exact arm_clo .never _ | exact arm_clo (.off _ _ _) _ | exact arm_clo (.on _ _ _) _), ⟨_, rfl, rfl⟩, (by first | (simp; done) | (simp; rfl) | exact clo_map _ _ _ | exact clo_brows _ _ | exact disk_clo _ _ rfl rfl rfl | exact arm_clo _ _ | (simp; exact ⟨rfl, rfl⟩) | (simp; exact ⟨rfl, rfl, rfl⟩) | exact arm_clo .never _ | exact arm_clo (.off _ _ _) _ | exact arm_clo (.on _ _ _) _), ⟨_, rfl, rfl⟩, (by first | (simp; done) | (simp; rfl) | exact clo_map _ _ _ | exact clo_brows _ _ | exact disk_clo _ _ rfl rfl rfl | exact arm_clo _ _ | (simp; exact ⟨rfl, rfl⟩) | (simp; exact ⟨rfl, rfl, rfl⟩) | exact arm_clo .never _ | exact arm_clo (.off _ _ _) _ | exact arm_clo (.on _ _ _) _), ⟨_, rfl, rfl⟩, (by first | (simp; done) | (simp; rfl) | exact clo_map _ _ _ | exact clo_brows _ _ | exact disk_clo _ _ rfl rfl rfl | exact arm_clo _ _ | (simp; exact ⟨rfl, rfl⟩) | (simp; exact ⟨rfl, rfl, rfl⟩) | exact arm_clo .never _ | exact arm_clo (.off _ _ _) _ | exact arm_clo (.on _ _ _) _), ⟨_, rfl, rfl⟩, (by first | (simp; done) | (simp; rfl) | exact clo_map _ _ _ | exact clo_brows _ _ | exact disk_clo _ _ rfl rfl rfl | exact arm_clo _ _ | (simp; exact ⟨rfl, rfl⟩) | (simp; exact ⟨rfl, rfl, rfl⟩) | exact arm_clo .never _ | exact arm_clo (.off _ _ _) _ | exact arm_clo (.on _ _ _) _), ⟨_, rfl, rfl⟩, (by first | (simp; done) | (simp; rfl) | exact clo_map _ _ _ | exact clo_brows _ _ | exact disk_clo _ _ rfl rfl rfl | exact arm_clo _ _ | (simp; exact ⟨rfl, rfl⟩) | (simp; exact ⟨rfl, rfl, rfl⟩) | exact arm_clo .never _ | exact arm_clo (.off _ _ _) _ | exact arm_clo (.on _ _ _) _), ⟨_, rfl, rfl⟩, (by first | (simp; done) | (simp; rfl) | exact clo_map _ _ _ | exact clo_brows _ _ | exact disk_clo _ _ rfl rfl rfl | exact arm_clo _ _ | (simp; exact ⟨rfl, rfl⟩) | (simp; exact ⟨rfl, rfl, rfl⟩) | exact arm_clo .never _ | exact arm_clo (.off _ _ _) _ | exact arm_clo (.on _ _ _) _), ⟨_, rfl, rfl⟩, (by first | (simp; done) | (simp; rfl) | exact clo_map _ _ _ | exact clo_brows _ _ | exact disk_clo _ _ rfl rfl rfl | exact arm_clo _ _ | (simp; exact ⟨rfl, rfl⟩) | (simp; exact ⟨rfl, rfl, rfl⟩) | exact arm_clo .never _ | exact arm_clo (.off _ _ _) _ | exact arm_clo (.on _ _ _) _), ⟨_, rfl, rfl⟩, (by first | (simp; done) | (simp; rfl) | exact clo_map _ _ _ | exact clo_brows _ _ | exact disk_clo _ _ rfl rfl rfl | exact arm_clo _ _ | (simp; exact ⟨rfl, rfl⟩) | (simp; exact ⟨rfl, rfl, rfl⟩) | exact arm_clo .never _ | exact arm_clo (.off _ _ _) _ | exact arm_clo (.on _ _ _) _), ⟨_, rfl, rfl⟩, (by first | (simp; done) | (simp; rfl) | exact clo_map _ _ _ | exact clo_brows _ _ | exact disk_clo _ _ rfl rfl rfl | exact arm_clo _ _ | (simp; exact ⟨rfl, rfl⟩) | (simp; exact ⟨rfl, rfl, rfl⟩) | exact arm_clo .never _ | exact arm_clo (.off _ _ _) _ | exact arm_clo (.on _ _ _) _), trivial⟩ trivial trivial) ?_
  refine awp_region ?_
  refine al_d rfl rfl rfl (by exact opr_call rfl rfl Try.call23 rfl (newF_c 1 _ (by decide) (by decide) rfl rfl rfl rfl)) ?_
  refine al_d rfl rfl rfl (by exact opd_assign rfl rfl) ?_
  refine al_nil ?_
  refine awp_seq ?_
  refine awp_region ?_
  refine al_d rfl rfl rfl (by exact opd_move rfl rfl) ?_
  refine al_d rfl rfl rfl (by exact opr_call rfl rfl Try.call39 rfl (disk_frame (arm_c hC0 1 1 2) _ ⟨rfl, rfl, rfl, rfl, trivial⟩ (by simp; rfl))) ?_
  refine al_nil ?_
  refine awp_seq ?_
  refine awp_region ?_
  refine al_d rfl rfl rfl (by exact opd_move rfl rfl) ?_
  refine al_d rfl rfl rfl (by exact opr_call rfl rfl Try.call38 rfl (fa _)) ?_
  refine al_d rfl rfl rfl (by exact opr_call rfl rfl Try.call33 rfl (disk_frame (wC2) _ ⟨rfl, rfl, rfl, rfl, trivial⟩ (by simp; rfl))) ?_
  refine al_d rfl rfl rfl (by exact opd_assign rfl rfl) ?_
  refine al_nil ?_
  refine awp_seq ?_
  refine awp_region ?_
  refine al_d rfl rfl rfl (by exact opd_move rfl rfl) ?_
  refine al_d rfl rfl rfl (by exact opr_call rfl rfl Try.call38 rfl (fb _)) ?_
  refine al_d rfl rfl rfl (by exact opr_call rfl rfl Try.call33 rfl (disk_frame (wC3) _ ⟨rfl, rfl, rfl, rfl, trivial⟩ (by simp; rfl))) ?_
  refine al_d rfl rfl rfl (by exact opd_assign rfl rfl) ?_
  refine al_nil ?_
  refine awp_seq ?_
  refine awp_region ?_
  refine al_d rfl rfl rfl (by exact opd_move rfl rfl) ?_
  refine al_d rfl rfl rfl (by exact opr_call rfl rfl Try.call30 rfl (disk_frame (start_c hC3) _ ⟨rfl, rfl, rfl, rfl, trivial⟩ (by simp; rfl))) ?_
  refine al_nil ?_
  refine awp_seq ?_
  refine awp_region ?_
  refine al_d rfl rfl rfl (by exact opd_move rfl rfl) ?_
  refine al_d rfl rfl rfl (by exact opr_call rfl rfl Try.call28 rfl (disk_frame (rC4) _ ⟨rfl, rfl, rfl, rfl, trivial⟩ (by simp; rfl))) ?_
  refine al_d rfl rfl rfl (by exact opd_move rfl rfl) ?_
  refine al_d rfl rfl rfl (by exact opd_extract rfl rfl rfl) ?_
  refine al_d rfl rfl rfl (by exact opd_extract rfl rfl rfl) ?_
  refine al_d rfl rfl rfl (by exact opd_assign rfl rfl) ?_
  refine al_d rfl rfl rfl (by exact opd_assign rfl rfl) ?_
  refine al_nil ?_
  refine awp_seq ?_
  refine awp_region ?_
  refine al_d rfl rfl rfl (by exact opd_move rfl rfl) ?_
  refine al_d rfl rfl rfl (by exact opd_eql rfl rfl rfl) ?_
  refine al_d rfl rfl rfl (by exact opd_move rfl rfl) ?_
  refine al_ond rfl rfl rfl (by first | rfl | assumption) rfl rfl (by exact opd_move rfl rfl) ?_
  refine al_ond rfl rfl rfl (by first | rfl | assumption) rfl rfl (by exact opd_eql rfl rfl rfl) ?_
  refine al_d rfl rfl rfl (by exact (by first | exact opd_pick_t rfl rfl rfl | exact opd_pick_f rfl rfl rfl | exact opd_pickt rfl rfl (by assumption) rfl | exact opd_pickf rfl rfl (by assumption) rfl | exact opd_pick rfl rfl rfl)) ?_
  refine al_d rfl rfl rfl (by exact opd_move rfl rfl) ?_
  refine al_ond rfl rfl rfl (by first | rfl | assumption) rfl rfl (by exact opd_move rfl rfl) ?_
  refine al_ond rfl rfl rfl (by first | rfl | assumption) rfl rfl (by exact opd_eql rfl rfl rfl) ?_
  refine al_d rfl rfl rfl (by exact (by first | exact opd_pick_t rfl rfl rfl | exact opd_pick_f rfl rfl rfl | exact opd_pickt rfl rfl (by assumption) rfl | exact opd_pickf rfl rfl (by assumption) rfl | exact opd_pick rfl rfl rfl)) ?_
  refine al_d rfl rfl rfl (by exact opd_move rfl rfl) ?_
  refine al_ond rfl rfl rfl (by first | rfl | assumption) rfl rfl (by exact opd_move rfl rfl) ?_
  refine al_ond rfl rfl rfl (by first | rfl | assumption) rfl rfl (by exact opr_call rfl rfl Try.call38 rfl (fa _)) ?_
  refine al_ond rfl rfl rfl (by first | rfl | assumption) rfl rfl (by exact opd_slice_str (l := 2) (h := a.size) rfl Try.underlying9 rfl rfl rfl (by omega) (by omega) rfl) ?_
  refine al_ond rfl rfl rfl (by first | rfl | assumption) rfl rfl (by exact opd_sadd rfl rfl rfl (hsz _ _) hbb) ?_
  refine al_ond rfl rfl rfl (by first | rfl | assumption) rfl rfl (by exact opd_seql rfl rfl rfl) ?_
  refine al_d rfl rfl rfl (by exact (by first | exact opd_pick_t rfl rfl rfl | exact opd_pick_f rfl rfl rfl | exact opd_pickt rfl rfl (by assumption) rfl | exact opd_pickf rfl rfl (by assumption) rfl | exact opd_pick rfl rfl rfl)) ?_
  refine al_d rfl rfl rfl (by exact opd_assign rfl rfl) ?_
  refine al_nil ?_
  refine awp_seq ?_
  refine awp_region ?_
  refine al_d rfl rfl rfl (by exact opd_move rfl rfl) ?_
  refine al_d rfl rfl rfl (by exact opd_eql rfl rfl rfl) ?_
  refine al_d rfl rfl rfl (by exact opd_move rfl rfl) ?_
  refine al_ond rfl rfl rfl (by first | rfl | assumption) rfl rfl (by exact opd_move rfl rfl) ?_
  refine al_ond rfl rfl rfl (by first | rfl | assumption) rfl rfl (by exact opd_eql rfl rfl rfl) ?_
  refine al_d rfl rfl rfl (by exact (by first | exact opd_pick_t rfl rfl rfl | exact opd_pick_f rfl rfl rfl | exact opd_pickt rfl rfl (by assumption) rfl | exact opd_pickf rfl rfl (by assumption) rfl | exact opd_pick rfl rfl rfl)) ?_
  refine al_d rfl rfl rfl (by exact opd_move rfl rfl) ?_
  refine al_ond rfl rfl rfl (by first | rfl | assumption) rfl rfl (by exact opd_move rfl rfl) ?_
  refine al_ond rfl rfl rfl (by first | rfl | assumption) rfl rfl (by exact opd_eql rfl rfl rfl) ?_
  refine al_d rfl rfl rfl (by exact (by first | exact opd_pick_t rfl rfl rfl | exact opd_pick_f rfl rfl rfl | exact opd_pickt rfl rfl (by assumption) rfl | exact opd_pickf rfl rfl (by assumption) rfl | exact opd_pick rfl rfl rfl)) ?_
  refine al_d rfl rfl rfl (by exact opd_move rfl rfl) ?_
  refine al_ond rfl rfl rfl (by first | rfl | assumption) rfl rfl (by exact opd_move rfl rfl) ?_
  refine al_ond rfl rfl rfl (by first | rfl | assumption) rfl rfl (by exact opd_eql rfl rfl rfl) ?_
  refine al_d rfl rfl rfl (by exact (by first | exact opd_pick_t rfl rfl rfl | exact opd_pick_f rfl rfl rfl | exact opd_pickt rfl rfl (by assumption) rfl | exact opd_pickf rfl rfl (by assumption) rfl | exact opd_pick rfl rfl rfl)) ?_
  refine al_d rfl rfl rfl (by exact opd_move rfl rfl) ?_
  refine al_ond rfl rfl rfl (by first | rfl | assumption) rfl rfl (by exact opd_move rfl rfl) ?_
  refine al_ond rfl rfl rfl (by first | rfl | assumption) rfl rfl (by exact opr_call rfl rfl Try.call38 rfl (fb _)) ?_
  refine al_ond rfl rfl rfl (by first | rfl | assumption) rfl rfl (by exact opd_seql rfl rfl rfl) ?_
  refine al_d rfl rfl rfl (by exact (by first | exact opd_pick_t rfl rfl rfl | exact opd_pick_f rfl rfl rfl | exact opd_pickt rfl rfl (by assumption) rfl | exact opd_pickf rfl rfl (by assumption) rfl | exact opd_pick rfl rfl rfl)) ?_
  refine al_d rfl rfl rfl (by exact opd_move rfl rfl) ?_
  refine al_ond rfl rfl rfl (by first | rfl | assumption) rfl rfl (by exact opd_move rfl rfl) ?_
  refine al_ond rfl rfl rfl (by first | rfl | assumption) rfl rfl (by exact opd_eql rfl rfl rfl) ?_
  refine al_d rfl rfl rfl (by exact (by first | exact opd_pick_t rfl rfl rfl | exact opd_pick_f rfl rfl rfl | exact opd_pickt rfl rfl (by assumption) rfl | exact opd_pickf rfl rfl (by assumption) rfl | exact opd_pick rfl rfl rfl)) ?_
  refine al_d rfl rfl rfl (by exact opd_move rfl rfl) ?_
  refine al_ond rfl rfl rfl (by first | rfl | assumption) rfl rfl (by exact opd_move rfl rfl) ?_
  refine al_ond rfl rfl rfl (by first | rfl | assumption) rfl rfl (by exact opd_eql rfl rfl rfl) ?_
  refine al_d rfl rfl rfl (by exact (by first | exact opd_pick_t rfl rfl rfl | exact opd_pick_f rfl rfl rfl | exact opd_pickt rfl rfl (by assumption) rfl | exact opd_pickf rfl rfl (by assumption) rfl | exact opd_pick rfl rfl rfl)) ?_
  refine al_d rfl rfl rfl (by exact opd_move rfl rfl) ?_
  refine al_ond rfl rfl rfl (by first | rfl | assumption) rfl rfl (by exact opd_move rfl rfl) ?_
  refine al_ond rfl rfl rfl (by first | rfl | assumption) rfl rfl (by exact opr_call rfl rfl Try.call38 rfl (fa _)) ?_
  refine al_ond rfl rfl rfl (by first | rfl | assumption) rfl rfl (by exact opd_slice_str (l := 2) (h := a.size) rfl Try.underlying9 rfl rfl rfl (by omega) (by omega) rfl) ?_
  refine al_ond rfl rfl rfl (by first | rfl | assumption) rfl rfl (by exact opd_sadd rfl rfl rfl (hsz _ _) hbb) ?_
  refine al_ond rfl rfl rfl (by first | rfl | assumption) rfl rfl (by exact opd_seql rfl rfl rfl) ?_
  refine al_d rfl rfl rfl (by exact (by first | exact opd_pick_t rfl rfl rfl | exact opd_pick_f rfl rfl rfl | exact opd_pickt rfl rfl (by assumption) rfl | exact opd_pickf rfl rfl (by assumption) rfl | exact opd_pick rfl rfl rfl)) ?_
  refine al_d rfl rfl rfl (by exact opd_move rfl rfl) ?_
  refine al_ond rfl rfl rfl (by first | rfl | assumption) rfl rfl (by exact opd_move rfl rfl) ?_
  refine al_ond rfl rfl rfl (by first | rfl | assumption) rfl rfl (by exact opd_eql rfl rfl rfl) ?_
  refine al_d rfl rfl rfl (by exact (by first | exact opd_pick_t rfl rfl rfl | exact opd_pick_f rfl rfl rfl | exact opd_pickt rfl rfl (by assumption) rfl | exact opd_pickf rfl rfl (by assumption) rfl | exact opd_pick rfl rfl rfl)) ?_
  refine al_d rfl rfl rfl (by exact opd_move rfl rfl) ?_
  refine al_ond rfl rfl rfl (by first | rfl | assumption) rfl rfl (by exact opd_move rfl rfl) ?_
  refine al_ond rfl rfl rfl (by first | rfl | assumption) rfl rfl (by exact opr_call rfl rfl Try.call38 rfl (fz _)) ?_
  refine al_ond rfl rfl rfl (by first | rfl | assumption) rfl rfl (by exact opd_seql rfl rfl rfl) ?_
  refine al_d rfl rfl rfl (by exact (by first | exact opd_pick_t rfl rfl rfl | exact opd_pick_f rfl rfl rfl | exact opd_pickt rfl rfl (by assumption) rfl | exact opd_pickf rfl rfl (by assumption) rfl | exact opd_pick rfl rfl rfl)) ?_
  refine al_d rfl rfl rfl (by exact opd_assign rfl rfl) ?_
  refine al_nil ?_
  refine awp_seq ?_
  refine awp_region ?_
  refine al_d rfl rfl rfl (by exact opd_move rfl rfl) ?_
  refine al_d rfl rfl rfl (by exact opd_move rfl rfl) ?_
  refine al_ond rfl rfl rfl (by first | rfl | assumption) rfl rfl (by exact opd_move rfl rfl) ?_
  refine al_d rfl rfl rfl (by exact (by first | exact opd_pick_t rfl rfl rfl | exact opd_pick_f rfl rfl rfl | exact opd_pickt rfl rfl (by assumption) rfl | exact opd_pickf rfl rfl (by assumption) rfl | exact opd_pick rfl rfl rfl)) ?_
  refine al_d rfl rfl rfl (by exact opd_move rfl rfl) ?_
  refine al_ond rfl rfl rfl (by first | rfl | assumption) rfl rfl (by exact opd_move rfl rfl) ?_
  refine al_d rfl rfl rfl (by exact (by first | exact opd_pick_t rfl rfl rfl | exact opd_pick_f rfl rfl rfl | exact opd_pickt rfl rfl (by assumption) rfl | exact opd_pickf rfl rfl (by assumption) rfl | exact opd_pick rfl rfl rfl)) ?_
  refine al_d rfl rfl rfl (by exact opd_move rfl rfl) ?_
  refine al_ond rfl rfl rfl (by first | rfl | assumption) rfl rfl (by exact opd_move rfl rfl) ?_
  refine al_ond rfl rfl rfl (by first | rfl | assumption) rfl rfl (by exact opd_eql rfl rfl rfl) ?_
  refine al_d rfl rfl rfl (by exact (by first | exact opd_pick_t rfl rfl rfl | exact opd_pick_f rfl rfl rfl | exact opd_pickt rfl rfl (by assumption) rfl | exact opd_pickf rfl rfl (by assumption) rfl | exact opd_pick rfl rfl rfl)) ?_
  refine al_d rfl rfl rfl (by exact opd_move rfl rfl) ?_
  refine al_ond rfl rfl rfl (by first | rfl | assumption) rfl rfl (by exact opd_move rfl rfl) ?_
  refine al_ond rfl rfl rfl (by first | rfl | assumption) rfl rfl (by exact opd_eql rfl rfl rfl) ?_
  refine al_d rfl rfl rfl (by exact (by first | exact opd_pick_t rfl rfl rfl | exact opd_pick_f rfl rfl rfl | exact opd_pickt rfl rfl (by assumption) rfl | exact opd_pickf rfl rfl (by assumption) rfl | exact opd_pick rfl rfl rfl)) ?_
  refine al_d rfl rfl rfl (by exact opd_move rfl rfl) ?_
  refine al_ond rfl rfl rfl (by first | rfl | assumption) rfl rfl (by exact opd_move rfl rfl) ?_
  refine al_ond rfl rfl rfl (by first | rfl | assumption) rfl rfl (by exact opr_call rfl rfl Try.call31 rfl (nsync_c _)) ?_
  refine al_ond rfl rfl rfl (by first | rfl | assumption) rfl rfl (by exact opd_eql rfl rfl rfl) ?_
  refine al_d rfl rfl rfl (by exact (by first | exact opd_pick_t rfl rfl rfl | exact opd_pick_f rfl rfl rfl | exact opd_pickt rfl rfl (by assumption) rfl | exact opd_pickf rfl rfl (by assumption) rfl | exact opd_pick rfl rfl rfl)) ?_
  refine al_d rfl rfl rfl (by exact opd_move rfl rfl) ?_
  refine al_ond rfl rfl rfl (by first | rfl | assumption) rfl rfl (by exact opd_move rfl rfl) ?_
  refine al_ond rfl rfl rfl (by first | rfl | assumption) rfl rfl (by exact opr_call rfl rfl Try.call38 rfl (fa _)) ?_
  refine al_ond rfl rfl rfl (by first | rfl | assumption) rfl rfl (by exact opr_call rfl rfl Try.call33 rfl (nwrite_c _ _ _)) ?_
  refine al_ond rfl rfl rfl (by first | rfl | assumption) rfl rfl (by exact opd_eql rfl rfl rfl) ?_
  refine al_d rfl rfl rfl (by exact (by first | exact opd_pick_t rfl rfl rfl | exact opd_pick_f rfl rfl rfl | exact opd_pickt rfl rfl (by assumption) rfl | exact opd_pickf rfl rfl (by assumption) rfl | exact opd_pick rfl rfl rfl)) ?_
  refine al_d rfl rfl rfl (by exact opd_move rfl rfl) ?_
  refine al_ond rfl rfl rfl (by first | rfl | assumption) rfl rfl (by exact opr_call rfl rfl Try.call23 rfl (new_bad _ _ (by decide))) ?_
  refine al_ond rfl rfl rfl (by first | rfl | assumption) rfl rfl (by exact (by first | exact opd_peq_ref rfl Try.underlying46 rfl rfl rfl rfl | exact opd_peq_nil rfl Try.underlying46 rfl rfl)) ?_
  refine al_d rfl rfl rfl (by exact (by first | exact opd_pick_t rfl rfl rfl | exact opd_pick_f rfl rfl rfl | exact opd_pickt rfl rfl (by assumption) rfl | exact opd_pickf rfl rfl (by assumption) rfl | exact opd_pick rfl rfl rfl)) ?_
  refine al_d rfl rfl rfl (by exact opd_move rfl rfl) ?_
  refine al_ond rfl rfl rfl (by first | rfl | assumption) rfl rfl (by exact opr_call rfl rfl Try.call23 rfl (new_bad _ _ (by decide))) ?_
  refine al_ond rfl rfl rfl (by first | rfl | assumption) rfl rfl (by exact (by first | exact opd_peq_ref rfl Try.underlying46 rfl rfl rfl rfl | exact opd_peq_nil rfl Try.underlying46 rfl rfl)) ?_
  refine al_d rfl rfl rfl (by exact (by first | exact opd_pick_t rfl rfl rfl | exact opd_pick_f rfl rfl rfl | exact opd_pickt rfl rfl (by assumption) rfl | exact opd_pickf rfl rfl (by assumption) rfl | exact opd_pick rfl rfl rfl)) ?_
  refine al_d rfl rfl rfl (by exact opd_assign rfl rfl) ?_
  refine al_nil ?_
  refine awp_ret ?_
  -- return
  refine aret1 (H' := []) (by first | exact .inr rfl | exact .inl rfl) rfl (rval_tmp rfl) (Fin.wk (by simp) trivial trivial) ?_
  exact ⟨rfl, rfl⟩
end Go.Proofs.Ytljocbkebhgkoaa
