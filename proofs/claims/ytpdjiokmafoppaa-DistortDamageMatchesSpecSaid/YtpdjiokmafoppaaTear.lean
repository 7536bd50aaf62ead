/- distort.Tear. Conditions: the pixels and the filling read. -/
import Derived.Test.YtpdjiokmafoppaaTearF
import Derived.Test.YtpdjiokmafoppaaShifted
namespace Go.Proofs.Ytpdjiokmafoppaa
open Go.RowKit

/-- A torn image's pixel. -/
def toF (W L T TW TH : Int) (m : Nat) (f p : Nat → Int) (k : Nat) : Int :=
  if 0 ≤ (k : Int) % W - L ∧ 0 ≤ (k : Int) / W - T ∧ (k : Int) % W - L < TW ∧ (k : Int) / W - T < TH then f ((((k : Int) / W - T) * TW + ((k : Int) % W - L)) % m).toNat else p k
theorem toF_byt {W L T TW TH : Int} {m : Nat} {f p : Nat → Int} (hf : Byt f) (hp : Byt p) : Byt (toF W L T TW TH m f p) := fun k => by
  unfold toF; split
  · exact hf _
  · exact hp _
/-- What stands at j when the first k pixels are torn. -/
def toK (W L T TW _TH : Int) (m : Nat) (f p : Nat → Int) (k j : Nat) : Value :=
  if 0 ≤ (j : Int) % W - L ∧ 0 ≤ (j : Int) / W - T ∧ (j : Int) % W - L < TW ∧ ((j : Int) / W - T) * TW + ((j : Int) % W - L) < k then .int .u8 (f ((((j : Int) / W - T) * TW + ((j : Int) % W - L)) % m).toNat) else .int .u8 (p j)
theorem toK_0 {W L T TW TH : Int} {m j : Nat} {f p : Nat → Int} : toK W L T TW TH m f p 0 j = .int .u8 (p j) := by
  unfold toK
  rw [if_neg]
  rintro ⟨a, b, c, d⟩
  have := Int.mul_nonneg b (show 0 ≤ TW by omega)
  omega
theorem toK_all {W L T TW TH : Int} {m z : Nat} {f p : Nat → Int} (hz : (z : Int) = TW * TH) (j : Nat) : toK W L T TW TH m f p z j = .int .u8 (toF W L T TW TH m f p j) := by
  unfold toK toF
  generalize (j : Int) % W - L = x
  generalize (j : Int) / W - T = y
  by_cases h : 0 ≤ x ∧ 0 ≤ y ∧ x < TW
  · by_cases h2 : y < TH
    · have : (y + 1) * TW ≤ TH * TW := Int.mul_le_mul_of_nonneg_right (by omega) (by omega)
      rw [Int.add_mul, Int.mul_comm TH] at this
      rw [if_pos ⟨h.1, h.2.1, h.2.2, by omega⟩, if_pos ⟨h.1, h.2.1, h.2.2, h2⟩]
    · have : TH * TW ≤ y * TW := Int.mul_le_mul_of_nonneg_right (by omega) (by omega)
      rw [Int.mul_comm TH] at this
      rw [if_neg (fun a => by omega), if_neg (fun a => h2 a.2.2.2)]
  · rw [if_neg (fun a => h ⟨a.1, a.2.1, a.2.2.1⟩), if_neg (fun a => h ⟨a.1, a.2.1, a.2.2.1⟩)]
theorem toK_step {W H L T TW TH : Int} {m fm k : Nat} {f p : Nat → Int} (ho : TearOk W H L T TW TH fm) (_hW : 1 ≤ W) (hTW : 0 < TW) (i : Nat) (he : (i : Int) = (T + (k : Int) / TW) * W + L + (k : Int) % TW) (j : Nat) :
    (if j = i then (.int .u8 (f ((k : Int) % m).toNat) : Value) else toK W L T TW TH m f p k j) = toK W L T TW TH m f p (k + 1) j := by
  have hx0 := Int.emod_nonneg (k : Int) (show TW ≠ 0 by omega)
  have hx1 := Int.emod_lt_of_pos (k : Int) hTW
  have hy0 := Int.ediv_nonneg (show (0 : Int) ≤ k by omega) (show 0 ≤ TW by omega)
  have hk : (k : Int) / TW * TW + (k : Int) % TW = k := by rw [Int.mul_comm]; exact Int.mul_ediv_add_emod _ _
  have ow := ho.w
  have ol := ho.l
  have ot := ho.t
  obtain ⟨s1, s2⟩ := split_at (W := W) (x := L + (k : Int) % TW) (y := T + (k : Int) / TW) ⟨by omega, by omega⟩ (by omega)
  rw [show (T + (k : Int) / TW) * W + (L + (k : Int) % TW) = (i : Int) from by rw [he]; omega] at s1 s2
  by_cases e : j = i
  · rw [if_pos e, e]
    unfold toK
    rw [s1, s2, show L + (k : Int) % TW - L = (k : Int) % TW from by omega, show T + (k : Int) / TW - T = (k : Int) / TW from by omega, hk, if_pos ⟨hx0, hy0, hx1, by omega⟩]
  · rw [if_neg e]
    unfold toK
    have hj : (j : Int) / W * W + (j : Int) % W = j := by rw [Int.mul_comm]; exact Int.mul_ediv_add_emod _ _
    by_cases h : 0 ≤ (j : Int) % W - L ∧ 0 ≤ (j : Int) / W - T ∧ (j : Int) % W - L < TW
    · by_cases h2 : ((j : Int) / W - T) * TW + ((j : Int) % W - L) < k
      · rw [if_pos ⟨h.1, h.2.1, h.2.2, h2⟩, if_pos ⟨h.1, h.2.1, h.2.2, by omega⟩]
      · rw [if_neg (fun a => h2 a.2.2.2), if_neg]
        rintro ⟨_, _, _, d⟩
        apply e
        have hk3 : ((j : Int) / W - T) * TW + ((j : Int) % W - L) = k := by omega
        obtain ⟨r1, r2⟩ := split_at (W := TW) (x := (j : Int) % W - L) (y := (j : Int) / W - T) ⟨h.1, h.2.2⟩ h.2.1
        rw [hk3] at r1 r2
        have : (j : Int) = i := by
          rw [he, r1, r2, show T + ((j : Int) / W - T) = (j : Int) / W from by omega]
          omega
        omega
    · rw [if_neg (fun a => h ⟨a.1, a.2.1, a.2.2.1⟩), if_neg (fun a => h ⟨a.1, a.2.1, a.2.2.1⟩)]
theorem teF_fill {W H L T TW TH : Int} {m : Nat} (h : fiC m ≠ 0) : teF W H L T TW TH m = (fiC m, -2) := by
  have e : teC L T TW TH m = fiC m := by
    unfold fiC at h ⊢; unfold teC
    by_cases h0 : m = 0
    · rw [if_pos h0, if_pos h0]
    · by_cases h1 : 64 < m
      · rw [if_neg h0, if_pos h1, if_neg h0, if_pos h1]
      · rw [if_neg h0, if_neg h1] at h; exact absurd rfl h
  unfold teF
  rw [e, if_pos h]
theorem teF_out {W H L T TW TH : Int} {m : Nat} (h : fiC m = 0) (h2 : inT W H L T TW TH = false) : teF W H L T TW TH m = (4, -2) := by
  have e : teC L T TW TH m = 0 ∨ teC L T TW TH m = 4 := by
    unfold fiC at h; unfold teC
    by_cases h0 : m = 0
    · rw [if_pos h0] at h; exact absurd h (by decide)
    · by_cases h1 : 64 < m
      · rw [if_neg h0, if_pos h1] at h; exact absurd h (by decide)
      · rw [if_neg h0, if_neg h1]; split <;> simp
  unfold teF
  rcases e with e | e
  · rw [e, if_neg (by decide), h2]; rfl
  · rw [e, if_pos (by decide)]

set_option maxHeartbeats 1000000 in
theorem Tear_img (A B : Option Addr) (n c m d : Nat) (W H L T TW TH : Int) (w : World) (hb : (imgF W H n).1 ≠ 0) :
    Calls Try.prog 68 #[iv W H A n c, tv L T TW TH B m d] w fun e w' => e = .returned (.tuple #[iv 0 0 none 0 0, fv (imgF W H n).1 (imgF W H n).2]) ∧ Below w.heap.size w w' := by
  obtain ⟨c0, i0, hci⟩ : ∃ c0 i0, imgF W H n = (c0, i0) := ⟨_, _, rfl⟩
  have hb0 : (c0 == 0) = false := by rw [hci] at hb; simpa using hb
  have HCI := Lib.hid hci
  clear hb hci
  rw [HCI.out]
  go_enter Try.func68, Try.ntmps68
  go_wp2_with fail
  refine (rValidate_any A n c W H _).mono ?_
  rw [HCI.out]
  rintro e w1 ⟨rfl, hbw1⟩
  obtain ⟨hcw1, hfw1⟩ := bcell hbw1
  have hzw1 := hbw1.size
  try simp at hzw1
  have kw1 : Below w.heap.size w w1 := Below.trans (by repeat (first | (with_reducible assumption) | (with_reducible exact Below.refl _ _) | (with_reducible refine Below.drew ?_) | (with_reducible refine below_drewN ?_ _) | ((with_reducible refine Below.alloc ?_ ?_ _); rotate_left; (focus (first | exact Nat.le_refl _ | omega | (simp; done) | (simp; omega) | (simp at *; omega)))) | ((with_reducible refine Below.setCell ?_ ?_ _); rotate_left; (focus (first | exact Nat.le_refl _ | omega | (simp; done) | (simp; omega) | (simp at *; omega)))))) (hbw1.mono (by (focus (first | exact Nat.le_refl _ | omega | (simp; done) | (simp; omega) | (simp at *; omega)))))
  have kzw1 := kw1.size
  have lw1w0 : w.heap.size < w1.heap.size := by omega
  have lw1w1 : w.heap.size + 1 < w1.heap.size := by omega
  have lw1w2 : w.heap.size + 2 < w1.heap.size := by omega
  have lw1w3 : w.heap.size + 3 < w1.heap.size := by omega
  go_wp2
  go_region
  go_wp2
  refine bodyPost_ret (v := (.tuple #[iv 0 0 none 0 0, fv c0 i0])) (by simp [results, Try.results68, go_sem, *]) rfl ?_
  exact ⟨rfl, (by repeat (first | (with_reducible assumption) | (with_reducible exact Below.refl _ _) | (with_reducible refine Below.drew ?_) | (with_reducible refine below_drewN ?_ _) | ((with_reducible refine Below.alloc ?_ ?_ _); rotate_left; (focus (first | exact Nat.le_refl _ | omega | (simp; done) | (simp; omega) | (simp at *; omega)))) | ((with_reducible refine Below.setCell ?_ ?_ _); rotate_left; (focus (first | exact Nat.le_refl _ | omega | (simp; done) | (simp; omega) | (simp at *; omega))))))⟩

set_option maxHeartbeats 1000000 in
theorem Tear_fill (A B : Option Addr) (n c m d : Nat) (W H L T TW TH : Int) (w : World) (hi : ImgOk W H n) (hb : fiC m ≠ 0) :
    Calls Try.prog 68 #[iv W H A n c, tv L T TW TH B m d] w fun e w' => e = .returned (.tuple #[iv 0 0 none 0 0, fv (fiC m) (-2)]) ∧ Below w.heap.size w w' := by
  have HF := Lib.hid (imgF_ok hi)
  have HCF := Lib.hid (fun w => checkFill_any B m d L T TW TH w)
  have hb0 : (fiC m != 0) = true := by simpa using hb
  clear hi hb
  generalize fiC m = c0 at *
  go_enter Try.func68, Try.ntmps68
  go_wp2_with fail
  refine (rValidate_any A n c W H _).mono ?_
  rw [HF.out]
  rintro e w1 ⟨rfl, hbw1⟩
  obtain ⟨hcw1, hfw1⟩ := bcell hbw1
  have hzw1 := hbw1.size
  try simp at hzw1
  have kw1 : Below w.heap.size w w1 := Below.trans (by repeat (first | (with_reducible assumption) | (with_reducible exact Below.refl _ _) | (with_reducible refine Below.drew ?_) | (with_reducible refine below_drewN ?_ _) | ((with_reducible refine Below.alloc ?_ ?_ _); rotate_left; (focus (first | exact Nat.le_refl _ | omega | (simp; done) | (simp; omega) | (simp at *; omega)))) | ((with_reducible refine Below.setCell ?_ ?_ _); rotate_left; (focus (first | exact Nat.le_refl _ | omega | (simp; done) | (simp; omega) | (simp at *; omega)))))) (hbw1.mono (by (focus (first | exact Nat.le_refl _ | omega | (simp; done) | (simp; omega) | (simp at *; omega)))))
  have kzw1 := kw1.size
  have lw1w0 : w.heap.size < w1.heap.size := by omega
  have lw1w1 : w.heap.size + 1 < w1.heap.size := by omega
  have lw1w2 : w.heap.size + 2 < w1.heap.size := by omega
  have lw1w3 : w.heap.size + 3 < w1.heap.size := by omega
  go_wp2_with fail
  refine (HCF.out _).mono ?_
  rintro e w2 ⟨rfl, hbw2⟩
  obtain ⟨hcw2, hfw2⟩ := bcell hbw2
  have hzw2 := hbw2.size
  try simp at hzw2
  have kw2 : Below w.heap.size w w2 := Below.trans (by repeat (first | (with_reducible assumption) | (with_reducible exact Below.refl _ _) | (with_reducible refine Below.drew ?_) | (with_reducible refine below_drewN ?_ _) | ((with_reducible refine Below.alloc ?_ ?_ _); rotate_left; (focus (first | exact Nat.le_refl _ | omega | (simp; done) | (simp; omega) | (simp at *; omega)))) | ((with_reducible refine Below.setCell ?_ ?_ _); rotate_left; (focus (first | exact Nat.le_refl _ | omega | (simp; done) | (simp; omega) | (simp at *; omega)))))) (hbw2.mono (by (focus (first | exact Nat.le_refl _ | omega | (simp; done) | (simp; omega) | (simp at *; omega)))))
  have kzw2 := kw2.size
  have lw2w10 : w1.heap.size < w2.heap.size := by omega
  have lw2w0 : w.heap.size < w2.heap.size := by omega
  have lw2w1 : w.heap.size + 1 < w2.heap.size := by omega
  have lw2w2 : w.heap.size + 2 < w2.heap.size := by omega
  have lw2w3 : w.heap.size + 3 < w2.heap.size := by omega
  go_wp2_with fail
  refine (dfault_any _ _ _).mono ?_
  rintro e w3 ⟨rfl, hbw3⟩
  obtain ⟨hcw3, hfw3⟩ := bcell hbw3
  have hzw3 := hbw3.size
  try simp at hzw3
  have kw3 : Below w.heap.size w w3 := Below.trans (by repeat (first | (with_reducible assumption) | (with_reducible exact Below.refl _ _) | (with_reducible refine Below.drew ?_) | (with_reducible refine below_drewN ?_ _) | ((with_reducible refine Below.alloc ?_ ?_ _); rotate_left; (focus (first | exact Nat.le_refl _ | omega | (simp; done) | (simp; omega) | (simp at *; omega)))) | ((with_reducible refine Below.setCell ?_ ?_ _); rotate_left; (focus (first | exact Nat.le_refl _ | omega | (simp; done) | (simp; omega) | (simp at *; omega)))))) (hbw3.mono (by (focus (first | exact Nat.le_refl _ | omega | (simp; done) | (simp; omega) | (simp at *; omega)))))
  have kzw3 := kw3.size
  have lw3w10 : w1.heap.size < w3.heap.size := by omega
  have lw3w0 : w.heap.size < w3.heap.size := by omega
  have lw3w1 : w.heap.size + 1 < w3.heap.size := by omega
  have lw3w2 : w.heap.size + 2 < w3.heap.size := by omega
  have lw3w3 : w.heap.size + 3 < w3.heap.size := by omega
  go_wp2
  refine bodyPost_ret (v := (.tuple #[iv 0 0 none 0 0, fv c0 (-2)])) (by simp [results, Try.results68, go_sem, *]) rfl ?_
  exact ⟨rfl, (by repeat (first | (with_reducible assumption) | (with_reducible exact Below.refl _ _) | (with_reducible refine Below.drew ?_) | (with_reducible refine below_drewN ?_ _) | ((with_reducible refine Below.alloc ?_ ?_ _); rotate_left; (focus (first | exact Nat.le_refl _ | omega | (simp; done) | (simp; omega) | (simp at *; omega)))) | ((with_reducible refine Below.setCell ?_ ?_ _); rotate_left; (focus (first | exact Nat.le_refl _ | omega | (simp; done) | (simp; omega) | (simp at *; omega))))))⟩

set_option maxHeartbeats 1000000 in
theorem Tear_out (A B : Option Addr) (n c m d : Nat) (W H L T TW TH : Int) (w : World) (hi : ImgOk W H n) (hb : fiC m = 0) (ht : inT W H L T TW TH = false) :
    Calls Try.prog 68 #[iv W H A n c, tv L T TW TH B m d] w fun e w' => e = .returned (.tuple #[iv 0 0 none 0 0, fv 4 (-2)]) ∧ Below w.heap.size w w' := by
  have HF := Lib.hid (imgF_ok hi)
  have hC := fun w => checkFill_any B m d L T TW TH w
  rw [hb] at hC
  have HCF := Lib.hid hC
  have hI := fun w => inside_any A B n c m d W H L T TW TH ⟨hi.w1, hi.w2⟩ ⟨hi.h1, hi.h2⟩ w
  rw [ht] at hI
  have HII := Lib.hid hI
  clear hi hb hC hI ht
  go_enter Try.func68, Try.ntmps68
  go_wp2_with fail
  refine (rValidate_any A n c W H _).mono ?_
  rw [HF.out]
  rintro e w1 ⟨rfl, hbw1⟩
  obtain ⟨hcw1, hfw1⟩ := bcell hbw1
  have hzw1 := hbw1.size
  try simp at hzw1
  have kw1 : Below w.heap.size w w1 := Below.trans (by repeat (first | (with_reducible assumption) | (with_reducible exact Below.refl _ _) | (with_reducible refine Below.drew ?_) | (with_reducible refine below_drewN ?_ _) | ((with_reducible refine Below.alloc ?_ ?_ _); rotate_left; (focus (first | exact Nat.le_refl _ | omega | (simp; done) | (simp; omega) | (simp at *; omega)))) | ((with_reducible refine Below.setCell ?_ ?_ _); rotate_left; (focus (first | exact Nat.le_refl _ | omega | (simp; done) | (simp; omega) | (simp at *; omega)))))) (hbw1.mono (by (focus (first | exact Nat.le_refl _ | omega | (simp; done) | (simp; omega) | (simp at *; omega)))))
  have kzw1 := kw1.size
  have lw1w0 : w.heap.size < w1.heap.size := by omega
  have lw1w1 : w.heap.size + 1 < w1.heap.size := by omega
  have lw1w2 : w.heap.size + 2 < w1.heap.size := by omega
  have lw1w3 : w.heap.size + 3 < w1.heap.size := by omega
  go_wp2_with fail
  refine (HCF.out _).mono ?_
  rintro e w2 ⟨rfl, hbw2⟩
  obtain ⟨hcw2, hfw2⟩ := bcell hbw2
  have hzw2 := hbw2.size
  try simp at hzw2
  have kw2 : Below w.heap.size w w2 := Below.trans (by repeat (first | (with_reducible assumption) | (with_reducible exact Below.refl _ _) | (with_reducible refine Below.drew ?_) | (with_reducible refine below_drewN ?_ _) | ((with_reducible refine Below.alloc ?_ ?_ _); rotate_left; (focus (first | exact Nat.le_refl _ | omega | (simp; done) | (simp; omega) | (simp at *; omega)))) | ((with_reducible refine Below.setCell ?_ ?_ _); rotate_left; (focus (first | exact Nat.le_refl _ | omega | (simp; done) | (simp; omega) | (simp at *; omega)))))) (hbw2.mono (by (focus (first | exact Nat.le_refl _ | omega | (simp; done) | (simp; omega) | (simp at *; omega)))))
  have kzw2 := kw2.size
  have lw2w10 : w1.heap.size < w2.heap.size := by omega
  have lw2w0 : w.heap.size < w2.heap.size := by omega
  have lw2w1 : w.heap.size + 1 < w2.heap.size := by omega
  have lw2w2 : w.heap.size + 2 < w2.heap.size := by omega
  have lw2w3 : w.heap.size + 3 < w2.heap.size := by omega
  go_wp2_with fail
  refine (HII.out _).mono ?_
  rintro e w3 ⟨rfl, hbw3⟩
  obtain ⟨hcw3, hfw3⟩ := bcell hbw3
  have hzw3 := hbw3.size
  try simp at hzw3
  have kw3 : Below w.heap.size w w3 := Below.trans (by repeat (first | (with_reducible assumption) | (with_reducible exact Below.refl _ _) | (with_reducible refine Below.drew ?_) | (with_reducible refine below_drewN ?_ _) | ((with_reducible refine Below.alloc ?_ ?_ _); rotate_left; (focus (first | exact Nat.le_refl _ | omega | (simp; done) | (simp; omega) | (simp at *; omega)))) | ((with_reducible refine Below.setCell ?_ ?_ _); rotate_left; (focus (first | exact Nat.le_refl _ | omega | (simp; done) | (simp; omega) | (simp at *; omega)))))) (hbw3.mono (by (focus (first | exact Nat.le_refl _ | omega | (simp; done) | (simp; omega) | (simp at *; omega)))))
  have kzw3 := kw3.size
  have lw3w10 : w1.heap.size < w3.heap.size := by omega
  have lw3w0 : w.heap.size < w3.heap.size := by omega
  have lw3w1 : w.heap.size + 1 < w3.heap.size := by omega
  have lw3w2 : w.heap.size + 2 < w3.heap.size := by omega
  have lw3w3 : w.heap.size + 3 < w3.heap.size := by omega
  go_wp2_with fail
  refine (dfault_any _ _ _).mono ?_
  rintro e w4 ⟨rfl, hbw4⟩
  obtain ⟨hcw4, hfw4⟩ := bcell hbw4
  have hzw4 := hbw4.size
  try simp at hzw4
  have kw4 : Below w.heap.size w w4 := Below.trans (by repeat (first | (with_reducible assumption) | (with_reducible exact Below.refl _ _) | (with_reducible refine Below.drew ?_) | (with_reducible refine below_drewN ?_ _) | ((with_reducible refine Below.alloc ?_ ?_ _); rotate_left; (focus (first | exact Nat.le_refl _ | omega | (simp; done) | (simp; omega) | (simp at *; omega)))) | ((with_reducible refine Below.setCell ?_ ?_ _); rotate_left; (focus (first | exact Nat.le_refl _ | omega | (simp; done) | (simp; omega) | (simp at *; omega)))))) (hbw4.mono (by (focus (first | exact Nat.le_refl _ | omega | (simp; done) | (simp; omega) | (simp at *; omega)))))
  have kzw4 := kw4.size
  have lw4w10 : w1.heap.size < w4.heap.size := by omega
  have lw4w0 : w.heap.size < w4.heap.size := by omega
  have lw4w1 : w.heap.size + 1 < w4.heap.size := by omega
  have lw4w2 : w.heap.size + 2 < w4.heap.size := by omega
  have lw4w3 : w.heap.size + 3 < w4.heap.size := by omega
  go_wp2
  refine bodyPost_ret (v := (.tuple #[iv 0 0 none 0 0, fv 4 (-2)])) (by simp [results, Try.results68, go_sem, *]) rfl ?_
  exact ⟨rfl, (by repeat (first | (with_reducible assumption) | (with_reducible exact Below.refl _ _) | (with_reducible refine Below.drew ?_) | (with_reducible refine below_drewN ?_ _) | ((with_reducible refine Below.alloc ?_ ?_ _); rotate_left; (focus (first | exact Nat.le_refl _ | omega | (simp; done) | (simp; omega) | (simp at *; omega)))) | ((with_reducible refine Below.setCell ?_ ?_ _); rotate_left; (focus (first | exact Nat.le_refl _ | omega | (simp; done) | (simp; omega) | (simp at *; omega))))))⟩

/-- A tear that is refused. -/
theorem Tear_bad (A B : Option Addr) (n c m d : Nat) (W H L T TW TH : Int) (w : World) (hi : ImgOk W H n) (hb : (teF W H L T TW TH m).1 ≠ 0) :
    Calls Try.prog 68 #[iv W H A n c, tv L T TW TH B m d] w fun e w' => e = .returned (.tuple #[iv 0 0 none 0 0, fv (teF W H L T TW TH m).1 (teF W H L T TW TH m).2]) ∧ Below w.heap.size w w' := by
  by_cases h : fiC m = 0
  · cases h2 : inT W H L T TW TH with
    | false => rw [teF_out h h2]; exact Tear_out A B n c m d W H L T TW TH w hi h h2
    | true =>
      exfalso
      apply hb
      have e := of_decide_eq_true h2
      have : teC L T TW TH m = 0 := by
        unfold fiC at h; unfold teC
        by_cases h0 : m = 0
        · rw [if_pos h0] at h; exact absurd h (by decide)
        · by_cases h1 : 64 < m
          · rw [if_neg h0, if_pos h1] at h; exact absurd h (by decide)
          · rw [if_neg h0, if_neg h1, if_neg (by omega)]
      unfold teF
      rw [if_neg (by rw [this]; decide), h2]; rfl
  · rw [teF_fill h]; exact Tear_fill A B n c m d W H L T TW TH w hi h

set_option maxHeartbeats 4000000 in
set_option maxRecDepth 100000 in
theorem Tear_ok (A B : Option Addr) (n c m d : Nat) (W H L T TW TH : Int) (p f : Nat → Int) (w : World) (hi : ImgOk W H n) (ht : TearOk W H L T TW TH m) (hr : RdB w A n p) (hq : RdB w B m f) :
    Calls Try.prog 68 #[iv W H A n c, tv L T TW TH B m d] w fun e w' => ∃ g, e = .returned (.tuple #[iv W H (some ⟨g, 0, none⟩) n n, fv 0 0]) ∧ w.heap.size ≤ g ∧ w'.rowIs g 5 n (fun k => .int .u8 (toF W L T TW TH m f p k)) ∧ Below w.heap.size w w' := by
  have HR := rd_later hr
  obtain ⟨bq, oq, hBq, hcq⟩ := hq ht.m1
  subst hBq
  have hqlt : bq < w.heap.size := World.block_lt_of_cell? _ _ (hcq 0 ht.m1)
  have HCQ := Lib.hid hcq
  have HI := Lib.hid hi
  have HTK := Lib.hid ht
  have HF := Lib.hid (imgF_ok hi)
  have hC := fun w => checkFill_any (some ⟨bq, oq, none⟩) m d L T TW TH w
  have a1 := ht.m1
  have a2 := ht.m2
  rw [show fiC m = 0 from by unfold fiC; rw [if_neg (by omega), if_neg (by omega)]] at hC
  have HCF := Lib.hid hC
  have hI := fun w => inside_any A (some ⟨bq, oq, none⟩) n c m d W H L T TW TH ⟨hi.w1, hi.w2⟩ ⟨hi.h1, hi.h2⟩ w
  have bl := ht.l
  have bt := ht.t
  have bw := ht.w
  have bh := ht.h
  have hW := hi.w1
  have hW2 := hi.w2
  have hH1 := hi.h1
  have hH2 := hi.h2
  rw [show inT W H L T TW TH = true from by unfold inT; exact decide_eq_true (by omega)] at hI
  have HII := Lib.hid hI
  have hnb : n ≤ 409600 := by have := mul_bd ⟨hi.w1, hi.w2⟩ ⟨hi.h1, hi.h2⟩; have := hi.len; omega
  have zb : 0 ≤ TW * TH ∧ TW * TH ≤ 409600 := ⟨Int.mul_nonneg bw.1 bh.1, by have := Int.mul_le_mul (a := TW) (b := TH) (c := 640) (d := 640) (by omega) (by omega) bh.1 (by omega); omega⟩
  obtain ⟨z, hz⟩ : ∃ z : Nat, (z : Int) = TW * TH := ⟨(TW * TH).toNat, by omega⟩
  have HZ := Lib.hid hz
  have u0 : IntKind.i64.wrap (TW * TH) = (z : Int) := by rw [hz]; exact IntWalk.i64_in _ (by omega)
  clear hr hq hcq hi ht hC hI hz
  go_enter Try.func68, Try.ntmps68
  go_wp2_with fail
  refine (rValidate_any A n c W H _).mono ?_
  rw [HF.out]
  rintro e w1 ⟨rfl, hbw1⟩
  have hzw1 := hbw1.size
  try simp at hzw1
  have kw1 : Below w.heap.size w w1 := Below.trans (by repeat (first | (with_reducible assumption) | (with_reducible exact Below.refl _ _) | (with_reducible refine Below.drew ?_) | (with_reducible refine below_drewN ?_ _) | ((with_reducible refine Below.alloc ?_ ?_ _); rotate_left; (focus (first | exact Nat.le_refl _ | omega | (simp; done) | (simp; omega) | (simp at *; omega)))) | ((with_reducible refine Below.setCell ?_ ?_ _); rotate_left; (focus (first | exact Nat.le_refl _ | omega | (simp; done) | (simp; omega) | (simp at *; omega)))))) (hbw1.mono (by (focus (first | exact Nat.le_refl _ | omega | (simp; done) | (simp; omega) | (simp at *; omega)))))
  have kzw1 := kw1.size
  try have lww1 : w.heap.size < w1.heap.size := by omega
  have Bin : Blk w1 (w.heap.size) 26 #[.int .i64 W, .int .i64 H, .slice A n c] := Blk.below (by repeat (first | (with_reducible assumption) | (with_reducible exact Blk.new _ _ _) | ((with_reducible refine Blk.new_at _ _ _ ?_); (focus (first | (simp; done) | omega))) | (with_reducible refine Blk.drew ?_) | (with_reducible refine Blk.drewN ?_ _) | (with_reducible refine Blk.alloc ?_ _) | ((with_reducible refine Blk.far ?_ ?_ _); rotate_left; (focus (first | (simp; done) | (simp; omega) | omega))))) hbw1 (by (focus (first | omega | (simp; done) | (simp; omega) | (simp at *; omega))))
  try clear ci fi
  try clear Bi
  have Bi := Bin
  clear Bin
  have ci := Bi.cell
  have fi := Bi.frozen
  have liw1 := Bi.lt
  have Btn : Blk w1 (w.heap.size + 1) 95 #[.int .i64 L, .int .i64 T, .int .i64 TW, .int .i64 TH, .slice (some ⟨bq, oq, none⟩) m d] := Blk.below (by repeat (first | (with_reducible assumption) | (with_reducible exact Blk.new _ _ _) | ((with_reducible refine Blk.new_at _ _ _ ?_); (focus (first | (simp; done) | omega))) | (with_reducible refine Blk.drew ?_) | (with_reducible refine Blk.drewN ?_ _) | (with_reducible refine Blk.alloc ?_ _) | ((with_reducible refine Blk.far ?_ ?_ _); rotate_left; (focus (first | (simp; done) | (simp; omega) | omega))))) hbw1 (by (focus (first | omega | (simp; done) | (simp; omega) | (simp at *; omega))))
  try clear ct ft
  try clear Bt
  have Bt := Btn
  clear Btn
  have ct := Bt.cell
  have ft := Bt.frozen
  have ltw1 := Bt.lt
  have Ban : Blk w1 (w.heap.size + 1 + 1) 26 #[.int .i64 0, .int .i64 0, .slice none 0 0] := Blk.below (by repeat (first | (with_reducible assumption) | (with_reducible exact Blk.new _ _ _) | ((with_reducible refine Blk.new_at _ _ _ ?_); (focus (first | (simp; done) | omega))) | (with_reducible refine Blk.drew ?_) | (with_reducible refine Blk.drewN ?_ _) | (with_reducible refine Blk.alloc ?_ _) | ((with_reducible refine Blk.far ?_ ?_ _); rotate_left; (focus (first | (simp; done) | (simp; omega) | omega))))) hbw1 (by (focus (first | omega | (simp; done) | (simp; omega) | (simp at *; omega))))
  try clear ca fa
  try clear Ba
  have Ba := Ban
  clear Ban
  have ca := Ba.cell
  have fa := Ba.frozen
  have law1 := Ba.lt
  have Bbn : Blk w1 (w.heap.size + 1 + 1 + 1) 28 #[.int .i64 0, .int .i64 0] := Blk.below (by repeat (first | (with_reducible assumption) | (with_reducible exact Blk.new _ _ _) | ((with_reducible refine Blk.new_at _ _ _ ?_); (focus (first | (simp; done) | omega))) | (with_reducible refine Blk.drew ?_) | (with_reducible refine Blk.drewN ?_ _) | (with_reducible refine Blk.alloc ?_ _) | ((with_reducible refine Blk.far ?_ ?_ _); rotate_left; (focus (first | (simp; done) | (simp; omega) | omega))))) hbw1 (by (focus (first | omega | (simp; done) | (simp; omega) | (simp at *; omega))))
  try clear cb fb
  try clear Bb
  have Bb := Bbn
  clear Bbn
  have cb := Bb.cell
  have fb := Bb.frozen
  have lbw1 := Bb.lt
  go_wp2_with fail
  refine (HCF.out _).mono ?_
  rintro e w2 ⟨rfl, hbw2⟩
  have hzw2 := hbw2.size
  try simp at hzw2
  have kw2 : Below w.heap.size w w2 := Below.trans (by repeat (first | (with_reducible assumption) | (with_reducible exact Below.refl _ _) | (with_reducible refine Below.drew ?_) | (with_reducible refine below_drewN ?_ _) | ((with_reducible refine Below.alloc ?_ ?_ _); rotate_left; (focus (first | exact Nat.le_refl _ | omega | (simp; done) | (simp; omega) | (simp at *; omega)))) | ((with_reducible refine Below.setCell ?_ ?_ _); rotate_left; (focus (first | exact Nat.le_refl _ | omega | (simp; done) | (simp; omega) | (simp at *; omega)))))) (hbw2.mono (by (focus (first | exact Nat.le_refl _ | omega | (simp; done) | (simp; omega) | (simp at *; omega)))))
  have kzw2 := kw2.size
  have kw1w2 : Below w1.heap.size w1 w2 := Below.trans (by repeat (first | (with_reducible assumption) | (with_reducible exact Below.refl _ _) | (with_reducible refine Below.drew ?_) | (with_reducible refine below_drewN ?_ _) | ((with_reducible refine Below.alloc ?_ ?_ _); rotate_left; (focus (first | exact Nat.le_refl _ | omega | (simp; done) | (simp; omega) | (simp at *; omega)))) | ((with_reducible refine Below.setCell ?_ ?_ _); rotate_left; (focus (first | exact Nat.le_refl _ | omega | (simp; done) | (simp; omega) | (simp at *; omega)))))) (hbw2.mono (by (focus (first | exact Nat.le_refl _ | omega | (simp; done) | (simp; omega) | (simp at *; omega)))))
  try have lww2 : w.heap.size < w2.heap.size := by omega
  try have lw1w2 : w1.heap.size < w2.heap.size := by omega
  have Bin : Blk w2 (w.heap.size) 26 #[.int .i64 W, .int .i64 H, .slice A n c] := Blk.below (by repeat (first | (with_reducible assumption) | (with_reducible exact Blk.new _ _ _) | ((with_reducible refine Blk.new_at _ _ _ ?_); (focus (first | (simp; done) | omega))) | (with_reducible refine Blk.drew ?_) | (with_reducible refine Blk.drewN ?_ _) | (with_reducible refine Blk.alloc ?_ _) | ((with_reducible refine Blk.far ?_ ?_ _); rotate_left; (focus (first | (simp; done) | (simp; omega) | omega))))) hbw2 (by (focus (first | omega | (simp; done) | (simp; omega) | (simp at *; omega))))
  try clear ci fi
  try clear Bi
  have Bi := Bin
  clear Bin
  have ci := Bi.cell
  have fi := Bi.frozen
  have liw2 := Bi.lt
  have Btn : Blk w2 (w.heap.size + 1) 95 #[.int .i64 L, .int .i64 T, .int .i64 TW, .int .i64 TH, .slice (some ⟨bq, oq, none⟩) m d] := Blk.below (by repeat (first | (with_reducible assumption) | (with_reducible exact Blk.new _ _ _) | ((with_reducible refine Blk.new_at _ _ _ ?_); (focus (first | (simp; done) | omega))) | (with_reducible refine Blk.drew ?_) | (with_reducible refine Blk.drewN ?_ _) | (with_reducible refine Blk.alloc ?_ _) | ((with_reducible refine Blk.far ?_ ?_ _); rotate_left; (focus (first | (simp; done) | (simp; omega) | omega))))) hbw2 (by (focus (first | omega | (simp; done) | (simp; omega) | (simp at *; omega))))
  try clear ct ft
  try clear Bt
  have Bt := Btn
  clear Btn
  have ct := Bt.cell
  have ft := Bt.frozen
  have ltw2 := Bt.lt
  have Ban : Blk w2 (w.heap.size + 1 + 1) 26 #[.int .i64 0, .int .i64 0, .slice none 0 0] := Blk.below (by repeat (first | (with_reducible assumption) | (with_reducible exact Blk.new _ _ _) | ((with_reducible refine Blk.new_at _ _ _ ?_); (focus (first | (simp; done) | omega))) | (with_reducible refine Blk.drew ?_) | (with_reducible refine Blk.drewN ?_ _) | (with_reducible refine Blk.alloc ?_ _) | ((with_reducible refine Blk.far ?_ ?_ _); rotate_left; (focus (first | (simp; done) | (simp; omega) | omega))))) hbw2 (by (focus (first | omega | (simp; done) | (simp; omega) | (simp at *; omega))))
  try clear ca fa
  try clear Ba
  have Ba := Ban
  clear Ban
  have ca := Ba.cell
  have fa := Ba.frozen
  have law2 := Ba.lt
  have Bbn : Blk w2 (w.heap.size + 1 + 1 + 1) 28 #[.int .i64 0, .int .i64 0] := Blk.below (by repeat (first | (with_reducible assumption) | (with_reducible exact Blk.new _ _ _) | ((with_reducible refine Blk.new_at _ _ _ ?_); (focus (first | (simp; done) | omega))) | (with_reducible refine Blk.drew ?_) | (with_reducible refine Blk.drewN ?_ _) | (with_reducible refine Blk.alloc ?_ _) | ((with_reducible refine Blk.far ?_ ?_ _); rotate_left; (focus (first | (simp; done) | (simp; omega) | omega))))) hbw2 (by (focus (first | omega | (simp; done) | (simp; omega) | (simp at *; omega))))
  try clear cb fb
  try clear Bb
  have Bb := Bbn
  clear Bbn
  have cb := Bb.cell
  have fb := Bb.frozen
  have lbw2 := Bb.lt
  go_wp2_with fail
  refine (HII.out _).mono ?_
  rintro e w3 ⟨rfl, hbw3⟩
  have hzw3 := hbw3.size
  try simp at hzw3
  have kw3 : Below w.heap.size w w3 := Below.trans (by repeat (first | (with_reducible assumption) | (with_reducible exact Below.refl _ _) | (with_reducible refine Below.drew ?_) | (with_reducible refine below_drewN ?_ _) | ((with_reducible refine Below.alloc ?_ ?_ _); rotate_left; (focus (first | exact Nat.le_refl _ | omega | (simp; done) | (simp; omega) | (simp at *; omega)))) | ((with_reducible refine Below.setCell ?_ ?_ _); rotate_left; (focus (first | exact Nat.le_refl _ | omega | (simp; done) | (simp; omega) | (simp at *; omega)))))) (hbw3.mono (by (focus (first | exact Nat.le_refl _ | omega | (simp; done) | (simp; omega) | (simp at *; omega)))))
  have kzw3 := kw3.size
  have kw1w3 : Below w1.heap.size w1 w3 := Below.trans (by repeat (first | (with_reducible assumption) | (with_reducible exact Below.refl _ _) | (with_reducible refine Below.drew ?_) | (with_reducible refine below_drewN ?_ _) | ((with_reducible refine Below.alloc ?_ ?_ _); rotate_left; (focus (first | exact Nat.le_refl _ | omega | (simp; done) | (simp; omega) | (simp at *; omega)))) | ((with_reducible refine Below.setCell ?_ ?_ _); rotate_left; (focus (first | exact Nat.le_refl _ | omega | (simp; done) | (simp; omega) | (simp at *; omega)))))) (hbw3.mono (by (focus (first | exact Nat.le_refl _ | omega | (simp; done) | (simp; omega) | (simp at *; omega)))))
  have kw2w3 : Below w2.heap.size w2 w3 := Below.trans (by repeat (first | (with_reducible assumption) | (with_reducible exact Below.refl _ _) | (with_reducible refine Below.drew ?_) | (with_reducible refine below_drewN ?_ _) | ((with_reducible refine Below.alloc ?_ ?_ _); rotate_left; (focus (first | exact Nat.le_refl _ | omega | (simp; done) | (simp; omega) | (simp at *; omega)))) | ((with_reducible refine Below.setCell ?_ ?_ _); rotate_left; (focus (first | exact Nat.le_refl _ | omega | (simp; done) | (simp; omega) | (simp at *; omega)))))) (hbw3.mono (by (focus (first | exact Nat.le_refl _ | omega | (simp; done) | (simp; omega) | (simp at *; omega)))))
  try have lww3 : w.heap.size < w3.heap.size := by omega
  try have lw1w3 : w1.heap.size < w3.heap.size := by omega
  try have lw2w3 : w2.heap.size < w3.heap.size := by omega
  have Bin : Blk w3 (w.heap.size) 26 #[.int .i64 W, .int .i64 H, .slice A n c] := Blk.below (by repeat (first | (with_reducible assumption) | (with_reducible exact Blk.new _ _ _) | ((with_reducible refine Blk.new_at _ _ _ ?_); (focus (first | (simp; done) | omega))) | (with_reducible refine Blk.drew ?_) | (with_reducible refine Blk.drewN ?_ _) | (with_reducible refine Blk.alloc ?_ _) | ((with_reducible refine Blk.far ?_ ?_ _); rotate_left; (focus (first | (simp; done) | (simp; omega) | omega))))) hbw3 (by (focus (first | omega | (simp; done) | (simp; omega) | (simp at *; omega))))
  try clear ci fi
  try clear Bi
  have Bi := Bin
  clear Bin
  have ci := Bi.cell
  have fi := Bi.frozen
  have liw3 := Bi.lt
  have Btn : Blk w3 (w.heap.size + 1) 95 #[.int .i64 L, .int .i64 T, .int .i64 TW, .int .i64 TH, .slice (some ⟨bq, oq, none⟩) m d] := Blk.below (by repeat (first | (with_reducible assumption) | (with_reducible exact Blk.new _ _ _) | ((with_reducible refine Blk.new_at _ _ _ ?_); (focus (first | (simp; done) | omega))) | (with_reducible refine Blk.drew ?_) | (with_reducible refine Blk.drewN ?_ _) | (with_reducible refine Blk.alloc ?_ _) | ((with_reducible refine Blk.far ?_ ?_ _); rotate_left; (focus (first | (simp; done) | (simp; omega) | omega))))) hbw3 (by (focus (first | omega | (simp; done) | (simp; omega) | (simp at *; omega))))
  try clear ct ft
  try clear Bt
  have Bt := Btn
  clear Btn
  have ct := Bt.cell
  have ft := Bt.frozen
  have ltw3 := Bt.lt
  have Ban : Blk w3 (w.heap.size + 1 + 1) 26 #[.int .i64 0, .int .i64 0, .slice none 0 0] := Blk.below (by repeat (first | (with_reducible assumption) | (with_reducible exact Blk.new _ _ _) | ((with_reducible refine Blk.new_at _ _ _ ?_); (focus (first | (simp; done) | omega))) | (with_reducible refine Blk.drew ?_) | (with_reducible refine Blk.drewN ?_ _) | (with_reducible refine Blk.alloc ?_ _) | ((with_reducible refine Blk.far ?_ ?_ _); rotate_left; (focus (first | (simp; done) | (simp; omega) | omega))))) hbw3 (by (focus (first | omega | (simp; done) | (simp; omega) | (simp at *; omega))))
  try clear ca fa
  try clear Ba
  have Ba := Ban
  clear Ban
  have ca := Ba.cell
  have fa := Ba.frozen
  have law3 := Ba.lt
  have Bbn : Blk w3 (w.heap.size + 1 + 1 + 1) 28 #[.int .i64 0, .int .i64 0] := Blk.below (by repeat (first | (with_reducible assumption) | (with_reducible exact Blk.new _ _ _) | ((with_reducible refine Blk.new_at _ _ _ ?_); (focus (first | (simp; done) | omega))) | (with_reducible refine Blk.drew ?_) | (with_reducible refine Blk.drewN ?_ _) | (with_reducible refine Blk.alloc ?_ _) | ((with_reducible refine Blk.far ?_ ?_ _); rotate_left; (focus (first | (simp; done) | (simp; omega) | omega))))) hbw3 (by (focus (first | omega | (simp; done) | (simp; omega) | (simp at *; omega))))
  try clear cb fb
  try clear Bb
  have Bb := Bbn
  clear Bbn
  have cb := Bb.cell
  have fb := Bb.frozen
  have lbw3 := Bb.lt
  go_wp2_with fail
  refine (copyOf_any A n c W H p (by omega) _ (HR.out _ (by repeat (first | (with_reducible assumption) | (with_reducible exact Below.refl _ _) | (with_reducible refine Below.drew ?_) | (with_reducible refine below_drewN ?_ _) | ((with_reducible refine Below.alloc ?_ ?_ _); rotate_left; (focus (first | exact Nat.le_refl _ | omega | (simp; done) | (simp; omega) | (simp at *; omega)))) | ((with_reducible refine Below.setCell ?_ ?_ _); rotate_left; (focus (first | exact Nat.le_refl _ | omega | (simp; done) | (simp; omega) | (simp at *; omega)))))))).mono ?_
  rintro e w4 ⟨rfl, hrow, hbw4⟩
  have Hrow := Lib.hid hrow
  have hgl := hrow.lt
  clear hrow
  have hzw4 := hbw4.size
  try simp at hzw4
  have kw4 : Below w.heap.size w w4 := Below.trans (by repeat (first | (with_reducible assumption) | (with_reducible exact Below.refl _ _) | (with_reducible refine Below.drew ?_) | (with_reducible refine below_drewN ?_ _) | ((with_reducible refine Below.alloc ?_ ?_ _); rotate_left; (focus (first | exact Nat.le_refl _ | omega | (simp; done) | (simp; omega) | (simp at *; omega)))) | ((with_reducible refine Below.setCell ?_ ?_ _); rotate_left; (focus (first | exact Nat.le_refl _ | omega | (simp; done) | (simp; omega) | (simp at *; omega)))))) (hbw4.mono (by (focus (first | exact Nat.le_refl _ | omega | (simp; done) | (simp; omega) | (simp at *; omega)))))
  have kzw4 := kw4.size
  have kw1w4 : Below w1.heap.size w1 w4 := Below.trans (by repeat (first | (with_reducible assumption) | (with_reducible exact Below.refl _ _) | (with_reducible refine Below.drew ?_) | (with_reducible refine below_drewN ?_ _) | ((with_reducible refine Below.alloc ?_ ?_ _); rotate_left; (focus (first | exact Nat.le_refl _ | omega | (simp; done) | (simp; omega) | (simp at *; omega)))) | ((with_reducible refine Below.setCell ?_ ?_ _); rotate_left; (focus (first | exact Nat.le_refl _ | omega | (simp; done) | (simp; omega) | (simp at *; omega)))))) (hbw4.mono (by (focus (first | exact Nat.le_refl _ | omega | (simp; done) | (simp; omega) | (simp at *; omega)))))
  have kw2w4 : Below w2.heap.size w2 w4 := Below.trans (by repeat (first | (with_reducible assumption) | (with_reducible exact Below.refl _ _) | (with_reducible refine Below.drew ?_) | (with_reducible refine below_drewN ?_ _) | ((with_reducible refine Below.alloc ?_ ?_ _); rotate_left; (focus (first | exact Nat.le_refl _ | omega | (simp; done) | (simp; omega) | (simp at *; omega)))) | ((with_reducible refine Below.setCell ?_ ?_ _); rotate_left; (focus (first | exact Nat.le_refl _ | omega | (simp; done) | (simp; omega) | (simp at *; omega)))))) (hbw4.mono (by (focus (first | exact Nat.le_refl _ | omega | (simp; done) | (simp; omega) | (simp at *; omega)))))
  have kw3w4 : Below w3.heap.size w3 w4 := Below.trans (by repeat (first | (with_reducible assumption) | (with_reducible exact Below.refl _ _) | (with_reducible refine Below.drew ?_) | (with_reducible refine below_drewN ?_ _) | ((with_reducible refine Below.alloc ?_ ?_ _); rotate_left; (focus (first | exact Nat.le_refl _ | omega | (simp; done) | (simp; omega) | (simp at *; omega)))) | ((with_reducible refine Below.setCell ?_ ?_ _); rotate_left; (focus (first | exact Nat.le_refl _ | omega | (simp; done) | (simp; omega) | (simp at *; omega)))))) (hbw4.mono (by (focus (first | exact Nat.le_refl _ | omega | (simp; done) | (simp; omega) | (simp at *; omega)))))
  try have lww4 : w.heap.size < w4.heap.size := by omega
  try have lw1w4 : w1.heap.size < w4.heap.size := by omega
  try have lw2w4 : w2.heap.size < w4.heap.size := by omega
  try have lw3w4 : w3.heap.size < w4.heap.size := by omega
  have Bin : Blk w4 (w.heap.size) 26 #[.int .i64 W, .int .i64 H, .slice A n c] := Blk.below (by repeat (first | (with_reducible assumption) | (with_reducible exact Blk.new _ _ _) | ((with_reducible refine Blk.new_at _ _ _ ?_); (focus (first | (simp; done) | omega))) | (with_reducible refine Blk.drew ?_) | (with_reducible refine Blk.drewN ?_ _) | (with_reducible refine Blk.alloc ?_ _) | ((with_reducible refine Blk.far ?_ ?_ _); rotate_left; (focus (first | (simp; done) | (simp; omega) | omega))))) hbw4 (by (focus (first | omega | (simp; done) | (simp; omega) | (simp at *; omega))))
  try clear ci fi
  try clear Bi
  have Bi := Bin
  clear Bin
  have ci := Bi.cell
  have fi := Bi.frozen
  have liw4 := Bi.lt
  have Btn : Blk w4 (w.heap.size + 1) 95 #[.int .i64 L, .int .i64 T, .int .i64 TW, .int .i64 TH, .slice (some ⟨bq, oq, none⟩) m d] := Blk.below (by repeat (first | (with_reducible assumption) | (with_reducible exact Blk.new _ _ _) | ((with_reducible refine Blk.new_at _ _ _ ?_); (focus (first | (simp; done) | omega))) | (with_reducible refine Blk.drew ?_) | (with_reducible refine Blk.drewN ?_ _) | (with_reducible refine Blk.alloc ?_ _) | ((with_reducible refine Blk.far ?_ ?_ _); rotate_left; (focus (first | (simp; done) | (simp; omega) | omega))))) hbw4 (by (focus (first | omega | (simp; done) | (simp; omega) | (simp at *; omega))))
  try clear ct ft
  try clear Bt
  have Bt := Btn
  clear Btn
  have ct := Bt.cell
  have ft := Bt.frozen
  have ltw4 := Bt.lt
  have Ban : Blk w4 (w.heap.size + 1 + 1) 26 #[.int .i64 0, .int .i64 0, .slice none 0 0] := Blk.below (by repeat (first | (with_reducible assumption) | (with_reducible exact Blk.new _ _ _) | ((with_reducible refine Blk.new_at _ _ _ ?_); (focus (first | (simp; done) | omega))) | (with_reducible refine Blk.drew ?_) | (with_reducible refine Blk.drewN ?_ _) | (with_reducible refine Blk.alloc ?_ _) | ((with_reducible refine Blk.far ?_ ?_ _); rotate_left; (focus (first | (simp; done) | (simp; omega) | omega))))) hbw4 (by (focus (first | omega | (simp; done) | (simp; omega) | (simp at *; omega))))
  try clear ca fa
  try clear Ba
  have Ba := Ban
  clear Ban
  have ca := Ba.cell
  have fa := Ba.frozen
  have law4 := Ba.lt
  have Bbn : Blk w4 (w.heap.size + 1 + 1 + 1) 28 #[.int .i64 0, .int .i64 0] := Blk.below (by repeat (first | (with_reducible assumption) | (with_reducible exact Blk.new _ _ _) | ((with_reducible refine Blk.new_at _ _ _ ?_); (focus (first | (simp; done) | omega))) | (with_reducible refine Blk.drew ?_) | (with_reducible refine Blk.drewN ?_ _) | (with_reducible refine Blk.alloc ?_ _) | ((with_reducible refine Blk.far ?_ ?_ _); rotate_left; (focus (first | (simp; done) | (simp; omega) | omega))))) hbw4 (by (focus (first | omega | (simp; done) | (simp; omega) | (simp at *; omega))))
  try clear cb fb
  try clear Bb
  have Bb := Bbn
  clear Bbn
  have cb := Bb.cell
  have fb := Bb.frozen
  have lbw4 := Bb.lt
  have H0 : LI w (w3.heap.size + 2) n (toK W L T TW TH m f p 0) [(w.heap.size, 26, #[.int .i64 W, .int .i64 H, .slice A n c]), (w.heap.size + 1, 95, #[.int .i64 L, .int .i64 T, .int .i64 TW, .int .i64 TH, .slice (some ⟨bq, oq, none⟩) m d]), (w.heap.size + 1 + 1, 26, #[.int .i64 0, .int .i64 0, .slice none 0 0]), (w.heap.size + 1 + 1 + 1, 28, #[.int .i64 0, .int .i64 0]),
      (w4.heap.size, 26, #[.int .i64 W, .int .i64 H, .slice (some ⟨w3.heap.size + 2, 0, none⟩) n n])] (w4.alloc (.cells #[.int .i64 W, .int .i64 H, .slice (some ⟨w3.heap.size + 2, 0, none⟩) n n] 26)) := by
    refine ⟨?_, ?_, by omega, (by repeat (first | (with_reducible assumption) | (with_reducible exact Below.refl _ _) | (with_reducible refine Below.drew ?_) | (with_reducible refine below_drewN ?_ _) | ((with_reducible refine Below.alloc ?_ ?_ _); rotate_left; (focus (first | exact Nat.le_refl _ | omega | (simp; done) | (simp; omega) | (simp at *; omega)))) | ((with_reducible refine Below.setCell ?_ ?_ _); rotate_left; (focus (first | exact Nat.le_refl _ | omega | (simp; done) | (simp; omega) | (simp at *; omega))))))⟩
    · exact ((Hrow.out : w4.rowIs (w3.heap.size + 2) 5 n _).congr fun i _ => toK_0.symm).alloc _
    · intro x hx
      simp only [List.mem_cons, List.not_mem_nil, or_false] at hx
      rcases hx with rfl | rfl | rfl | rfl | rfl
      · exact ⟨Bi.alloc _, by simp; omega⟩
      · exact ⟨Bt.alloc _, by simp; omega⟩
      · exact ⟨Ba.alloc _, by simp; omega⟩
      · exact ⟨Bb.alloc _, by simp; omega⟩
      · exact ⟨Blk.new _ _ _, by simp; omega⟩
  have HGE := Lib.hid (show w.heap.size ≤ w3.heap.size + 2 by omega)
  clear Bi Bt Ba Bb ca fa cb fb Hrow hbw4
  go_wp2
  clear ci fi ct ft
  go_loopg [37] z (fun gk s wr => ∃ k : Nat, k ≤ z ∧ gk = z - k ∧ s = .int .i64 k ∧ LI w (w3.heap.size + 2) n (toK W L T TW TH m f p k) [(w.heap.size, 26, #[.int .i64 W, .int .i64 H, .slice A n c]), (w.heap.size + 1, 95, #[.int .i64 L, .int .i64 T, .int .i64 TW, .int .i64 TH, .slice (some ⟨bq, oq, none⟩) m d]), (w.heap.size + 1 + 1, 26, #[.int .i64 0, .int .i64 0, .slice none 0 0]), (w.heap.size + 1 + 1 + 1, 28, #[.int .i64 0, .int .i64 0]),
      (w4.heap.size, 26, #[.int .i64 W, .int .i64 H, .slice (some ⟨w3.heap.size + 2, 0, none⟩) n n])] wr)
  case atStart => exact ⟨0, by omega, rfl, rfl, H0⟩
  case round =>
    obtain ⟨k, hk, rfl, rfl, hI⟩ := hrel
    clear H0
    have HS := Lib.hid hI
    have Bo := hI.b (b := w4.heap.size) (t := 26) (cs := #[.int .i64 W, .int .i64 H, .slice (some ⟨w3.heap.size + 2, 0, none⟩) n n]) (by simp)
    have co := Bo.cell
    by_cases hlt : k < z
    · have Bi := hI.b (b := w.heap.size) (t := 26) (cs := #[.int .i64 W, .int .i64 H, .slice A n c]) (by simp)
      have Bt := hI.b (b := w.heap.size + 1) (t := 95) (cs := #[.int .i64 L, .int .i64 T, .int .i64 TW, .int .i64 TH, .slice (some ⟨bq, oq, none⟩) m d]) (by simp)
      have li := Bi.lt
      have lt := Bt.lt
      have lo := Bo.lt
      have ni := (hI.blk (w.heap.size, 26, #[.int .i64 W, .int .i64 H, .slice A n c]) (by simp)).2
      have nt := (hI.blk (w.heap.size + 1, 95, #[.int .i64 L, .int .i64 T, .int .i64 TW, .int .i64 TH, .slice (some ⟨bq, oq, none⟩) m d]) (by simp)).2
      have no := (hI.blk (w4.heap.size, 26, #[.int .i64 W, .int .i64 H, .slice (some ⟨w3.heap.size + 2, 0, none⟩) n n]) (by simp)).2
      have hz := HZ.out
      have TWp : 0 < TW := by
        apply Int.not_le.1
        intro g
        have : TW = 0 := by omega
        rw [this, Int.zero_mul] at hz
        omega
      obtain ⟨X, hX⟩ : ∃ X, X = (k : Int) % TW := ⟨_, rfl⟩
      obtain ⟨Y, hY⟩ : ∃ Y, Y = (k : Int) / TW := ⟨_, rfl⟩
      have x1 : 0 ≤ X ∧ X < TW := by rw [hX]; exact ⟨Int.emod_nonneg _ (by omega), Int.emod_lt_of_pos _ TWp⟩
      have y1 : 0 ≤ Y ∧ Y < TH := by
        rw [hY]
        refine ⟨Int.ediv_nonneg (by omega) (by omega), (Int.ediv_lt_iff_lt_mul TWp).2 ?_⟩
        rw [Int.mul_comm]; omega
      obtain ⟨i1, i2, i3, i4⟩ := idx_bd (W := W) (H := H) (x := L + X) (y := T + Y) ⟨hW, hW2⟩ ⟨hH1, hH2⟩ ⟨by omega, by omega⟩ ⟨by omega, by omega⟩
      obtain ⟨i, hi⟩ : ∃ i : Nat, (i : Int) = (T + Y) * W + L + X := ⟨((T + Y) * W + L + X).toNat, by omega⟩
      have hlen := HI.out.len
      have hin : i < n := by omega
      have kb : (k : Int) < 409600 := by omega
      have st := hI.row.cell hin
      have fz := hI.row.frozen i
      have m1 : (0 : Int) < (m : Int) := by omega
      have hmm : ¬ (m : Int) = 0 := by omega
      have hm0 : ¬ m = 0 := by omega
      obtain ⟨j, hj⟩ : ∃ j : Nat, (j : Int) = (k : Int) % m := ⟨((k : Int) % m).toNat, by have := Int.emod_nonneg (k : Int) hmm; omega⟩
      have hjm : j < m := by have := Int.emod_lt_of_pos (k : Int) m1; omega
      have ST := Lib.hid (fun jj => by
        have q1 := toK_step (f := f) (p := p) (m := m) (k := k) HTK.out hW TWp i (by rw [← hX, ← hY]; exact hi) jj
        rw [← hj, Int.toNat_natCast] at q1
        exact q1)
      have HIb := Lib.hid hI.bel
      have CS : Hid (∀ X, Below wr.heap.size wr X → X.cell? ⟨w4.heap.size, 2, none⟩ = some (.slice (some ⟨w3.heap.size + 2, 0, none⟩) n n) ∧ X.cell? ⟨w.heap.size + 1, 0, none⟩ = some (.int .i64 L) ∧ X.cell? ⟨w.heap.size + 1, 1, none⟩ = some (.int .i64 T) ∧ X.cell? ⟨w.heap.size + 1, 2, none⟩ = some (.int .i64 TW) ∧ X.cell? ⟨w.heap.size + 1, 4, none⟩ = some (.slice (some ⟨bq, oq, none⟩) m d) ∧ X.cell? ⟨w.heap.size, 0, none⟩ = some (.int .i64 W) ∧ X.cell? ⟨bq, oq + j, none⟩ = some (.int .u8 (f j))) :=
        Lib.hid fun X h => ⟨(Bo.below h lo).cell 2, (Bt.below h lt).cell 0, (Bt.below h lt).cell 1, (Bt.below h lt).cell 2, (Bt.below h lt).cell 4, (Bi.below h li).cell 0, ((HIb.out.trans (h.mono HIb.out.size)).cell (p := ⟨bq, oq + j, none⟩) hqlt).trans (HCQ.out j hjm)⟩
      have CT : Hid (∀ X v, Below wr.heap.size wr X → (X.setCell ⟨w3.heap.size + 2, i, none⟩ v).cell? ⟨w4.heap.size, 2, none⟩ = some (.slice (some ⟨w3.heap.size + 2, 0, none⟩) n n) ∧ (X.setCell ⟨w3.heap.size + 2, i, none⟩ v).cell? ⟨w.heap.size + 1, 0, none⟩ = some (.int .i64 L) ∧ (X.setCell ⟨w3.heap.size + 2, i, none⟩ v).cell? ⟨w.heap.size + 1, 1, none⟩ = some (.int .i64 T) ∧ (X.setCell ⟨w3.heap.size + 2, i, none⟩ v).cell? ⟨w.heap.size + 1, 2, none⟩ = some (.int .i64 TW) ∧ (X.setCell ⟨w3.heap.size + 2, i, none⟩ v).cell? ⟨w.heap.size + 1, 4, none⟩ = some (.slice (some ⟨bq, oq, none⟩) m d) ∧ (X.setCell ⟨w3.heap.size + 2, i, none⟩ v).cell? ⟨w.heap.size, 0, none⟩ = some (.int .i64 W) ∧ (X.setCell ⟨w3.heap.size + 2, i, none⟩ v).cell? ⟨bq, oq + j, none⟩ = some (.int .u8 (f j))) :=
        Lib.hid fun X v h => ⟨((Bo.below h lo).far no v).cell 2, ((Bt.below h lt).far nt v).cell 0, ((Bt.below h lt).far nt v).cell 1, ((Bt.below h lt).far nt v).cell 2, ((Bt.below h lt).far nt v).cell 4, ((Bi.below h li).far ni v).cell 0, (((HIb.out.trans (h.mono HIb.out.size)).setCell HGE.out _).cell (p := ⟨bq, oq + j, none⟩) hqlt).trans (HCQ.out j hjm)⟩
      have u1 : (k : Int).tmod m = (j : Int) := by rw [hj]; exact Int.tmod_eq_emod_of_nonneg (by omega)
      have u2 : IntKind.i64.wrap (j : Int) = (j : Int) := IntWalk.i64_in _ (by omega)
      have v1 : (k : Int).tmod TW = X := by rw [hX]; exact Int.tmod_eq_emod_of_nonneg (by omega)
      have v2 : (k : Int).tdiv TW = Y := by rw [hY]; exact Int.tdiv_eq_ediv_of_nonneg (by omega)
      have v3 : ¬ TW = 0 := by omega
      have v4 : IntKind.i64.wrap X = X := IntWalk.i64_in _ (by omega)
      have v5 : IntKind.i64.wrap Y = Y := IntWalk.i64_in _ (by omega)
      have v6 : IntKind.i64.wrap (T + Y) = T + Y := IntWalk.i64_in _ (by omega)
      have v7 : IntKind.i64.wrap ((T + Y) * W) = (T + Y) * W := IntWalk.i64_in _ (by omega)
      have v8 : IntKind.i64.wrap ((T + Y) * W + L) = (T + Y) * W + L := IntWalk.i64_in _ (by omega)
      have v9 : IntKind.i64.wrap ((T + Y) * W + L + X) = (i : Int) := by rw [← hi]; exact IntWalk.i64_in _ (by omega)
      have j1 : (0 : Int) ≤ (j : Int) := by omega
      have j2 : (j : Int) < (m : Int) := by omega
      have i0 : (0 : Int) ≤ (i : Int) := by omega
      have iN : (i : Int) < (n : Int) := by omega
      have HK := Lib.hid (show k + 1 ≤ z from hlt)
      clear hI Bi Bt Bo hj hX hY hi hz hlen i1 i2 i3 i4 x1 y1 hin hjm ni nt no
      go_wp2_with fail
      go_region_held3 (fun X => X.cell? ⟨w4.heap.size, 2, none⟩ = some (.slice (some ⟨w3.heap.size + 2, 0, none⟩) n n) ∧ X.cell? ⟨w.heap.size + 1, 0, none⟩ = some (.int .i64 L) ∧ X.cell? ⟨w.heap.size + 1, 1, none⟩ = some (.int .i64 T) ∧ X.cell? ⟨w.heap.size + 1, 2, none⟩ = some (.int .i64 TW) ∧ X.cell? ⟨w.heap.size + 1, 4, none⟩ = some (.slice (some ⟨bq, oq, none⟩) m d) ∧ X.cell? ⟨w.heap.size, 0, none⟩ = some (.int .i64 W) ∧ X.cell? ⟨bq, oq + j, none⟩ = some (.int .u8 (f j)))
        (first | exact CT.out _ _ (by repeat (first | (with_reducible assumption) | (with_reducible exact Below.refl _ _) | (with_reducible refine Below.drew ?_) | (with_reducible refine below_drewN ?_ _) | ((with_reducible refine Below.alloc ?_ ?_ _); rotate_left; (focus (first | exact Nat.le_refl _ | omega | (simp; done) | (simp; omega) | (simp at *; omega)))) | ((with_reducible refine Below.setCell ?_ ?_ _); rotate_left; (focus (first | exact Nat.le_refl _ | omega | (simp; done) | (simp; omega) | (simp at *; omega)))))) | exact CS.out _ (by repeat (first | (with_reducible assumption) | (with_reducible exact Below.refl _ _) | (with_reducible refine Below.drew ?_) | (with_reducible refine below_drewN ?_ _) | ((with_reducible refine Below.alloc ?_ ?_ _); rotate_left; (focus (first | exact Nat.le_refl _ | omega | (simp; done) | (simp; omega) | (simp at *; omega)))) | ((with_reducible refine Below.setCell ?_ ?_ _); rotate_left; (focus (first | exact Nat.le_refl _ | omega | (simp; done) | (simp; omega) | (simp at *; omega)))))))
        (fail)
      go_wp2
      go_roundg (z - (k + 1))
      case measure => have := HK.out; omega
      case rel => exact ⟨k + 1, HK.out, rfl, by go_num, ((HS.out.set (w4 := wr) (Below.refl _ _) i _).congr fun jj _ => ST.out jj).mono (by repeat (first | (with_reducible assumption) | (with_reducible exact Below.refl _ _) | (with_reducible refine Below.drew ?_) | (with_reducible refine below_drewN ?_ _) | ((with_reducible refine Below.alloc ?_ ?_ _); rotate_left; (focus (first | exact Nat.le_refl _ | omega | (simp; done) | (simp; omega) | (simp at *; omega)))) | ((with_reducible refine Below.setCell ?_ ?_ _); rotate_left; (focus (first | exact Nat.le_refl _ | omega | (simp; done) | (simp; omega) | (simp at *; omega))))))⟩
    · obtain rfl : k = z := by omega
      have Ba := hI.b (b := w.heap.size + 1 + 1) (t := 26) (cs := #[.int .i64 0, .int .i64 0, .slice none 0 0]) (by simp)
      have Bb := hI.b (b := w.heap.size + 1 + 1 + 1) (t := 28) (cs := #[.int .i64 0, .int .i64 0]) (by simp)
      have ca := Ba.cell
      have fa := Ba.frozen
      have cb := Bb.cell
      have fb := Bb.frozen
      have Hrow := Lib.hid (hI.row.congr fun j _ => toK_all HZ.out j)
      have hbel := hI.bel
      clear hI Bo
      go_wp2
      refine bodyPost_ret (v := (.tuple #[iv W H (some ⟨w3.heap.size + 2, 0, none⟩) n n, fv 0 0])) (by simp [results, Try.results68, go_sem, *]) rfl ?_
      refine ⟨_, rfl, HGE.out, ?_, (by repeat (first | (with_reducible assumption) | (with_reducible exact Below.refl _ _) | (with_reducible refine Below.drew ?_) | (with_reducible refine below_drewN ?_ _) | ((with_reducible refine Below.alloc ?_ ?_ _); rotate_left; (focus (first | exact Nat.le_refl _ | omega | (simp; done) | (simp; omega) | (simp at *; omega)))) | ((with_reducible refine Below.setCell ?_ ?_ _); rotate_left; (focus (first | exact Nat.le_refl _ | omega | (simp; done) | (simp; omega) | (simp at *; omega))))))⟩
      have := Hrow.out
      exact (by repeat (first | (with_reducible assumption) | (with_reducible refine World.rowIs.drew ?_) | (with_reducible refine rowIs_drewN ?_ _) | (with_reducible refine World.rowIs.alloc ?_ _) | ((with_reducible refine World.rowIs.setOther ?_ ?_ _); rotate_left; (focus (first | (simp; done) | (simp; omega) | omega)))))

end Go.Proofs.Ytpdjiokmafoppaa
