/- Contracts of the checks of an image (both return the one fault 'imgF'), of the comparison of byte strings and of images, of Pixel and of White. Conditions: the pixels read as bytes. -/
import Derived.Test.YtpdjiokmafoppaaGrid2
import Derived.Laws.BytesArg
namespace Go.Proofs.Ytpdjiokmafoppaa
open Go.RowKit

/-- The value of an image. -/
abbrev iv (W H : Int) (A : Option Addr) (n c : Nat) : Value := .agg #[.int .i64 W, .int .i64 H, .slice A n c]
/-- The fault of an image. -/
def imgF (W H : Int) (n : Nat) : Int × Int :=
  if W < 1 ∨ 640 < W then (4, -1) else if H < 1 ∨ 640 < H then (4, -2) else if (n : Int) ≠ W * H then (9, -3) else (0, 0)
theorem imgF_1 {W H : Int} {n : Nat} (h : W < 1 ∨ 640 < W) : imgF W H n = (4, -1) := by unfold imgF; rw [if_pos h]
theorem imgF_2 {W H : Int} {n : Nat} (h : 1 ≤ W ∧ W ≤ 640) (h2 : H < 1 ∨ 640 < H) : imgF W H n = (4, -2) := by unfold imgF; rw [if_neg (by omega), if_pos h2]
theorem imgF_3 {W H : Int} {n : Nat} (h : 1 ≤ W ∧ W ≤ 640) (h2 : 1 ≤ H ∧ H ≤ 640) (h3 : (n : Int) ≠ W * H) : imgF W H n = (9, -3) := by
  unfold imgF; rw [if_neg (by omega), if_neg (by omega), if_pos h3]
theorem imgF_4 {W H : Int} {n : Nat} (h : 1 ≤ W ∧ W ≤ 640) (h2 : 1 ≤ H ∧ H ≤ 640) (h3 : (n : Int) = W * H) : imgF W H n = (0, 0) := by
  unfold imgF; rw [if_neg (by omega), if_neg (by omega), if_neg (by simpa using h3)]
/-- An image that is valid. -/
structure ImgOk (W H : Int) (n : Nat) : Prop where
  w1 : 1 ≤ W
  w2 : W ≤ 640
  h1 : 1 ≤ H
  h2 : H ≤ 640
  len : (n : Int) = W * H
theorem imgF_ok {W H : Int} {n : Nat} (h : ImgOk W H n) : imgF W H n = (0, 0) := imgF_4 ⟨h.w1, h.w2⟩ ⟨h.h1, h.h2⟩ h.len
theorem imgF_cases (W H : Int) (n : Nat) : ImgOk W H n ∨ (imgF W H n).1 ≠ 0 := by
  by_cases h : 1 ≤ W ∧ W ≤ 640
  · by_cases h2 : 1 ≤ H ∧ H ≤ 640
    · by_cases h3 : (n : Int) = W * H
      · exact .inl ⟨h.1, h.2, h2.1, h2.2, h3⟩
      · right; rw [imgF_3 h h2 h3]; decide
    · right; rw [imgF_2 h (by omega)]; decide
  · right; rw [imgF_1 (by omega)]; decide
theorem mul_bd {W H : Int} (h : 1 ≤ W ∧ W ≤ 640) (h2 : 1 ≤ H ∧ H ≤ 640) : 1 ≤ W * H ∧ W * H ≤ 409600 := by
  have a := Int.mul_le_mul h.2 h2.2 (by omega) (by omega)
  have b := Int.mul_le_mul h.1 h2.1 (by omega) (by omega)
  omega

set_option maxHeartbeats 1000000 in
theorem ImageFault_any (A : Option Addr) (n c : Nat) (W H : Int) (w : World) :
    Calls Try.prog 27 #[iv W H A n c] w fun e w' => e = .returned (fv (imgF W H n).1 (imgF W H n).2) ∧ Below w.heap.size w w' := by
  by_cases hW : 1 ≤ W ∧ W ≤ 640
  · have t1 := inB_yes hW.1 hW.2
    by_cases hH : 1 ≤ H ∧ H ≤ 640
    · have t2 := inB_yes hH.1 hH.2
      have hm := mul_bd hW hH
      by_cases hN : (n : Int) = W * H
      · have HF := Lib.hid (imgF_4 hW hH hN)
        have t3 : ((n : Int) != W * H) = false := by simp [hN]
        clear hN
        go_enter Try.func27, Try.ntmps27
        go_wp2_with fail
        refine (In_any _ _ _ _).mono ?_
        rintro e w' ⟨rfl, rfl⟩
        go_wp2_with fail
        refine (In_any _ _ _ _).mono ?_
        rintro e w' ⟨rfl, rfl⟩
        go_wp2_with fail
        refine (At_any _ _ _).mono ?_
        rintro e w1 ⟨rfl, hbw1⟩
        obtain ⟨hcw1, hfw1⟩ := bcell hbw1
        have hzw1 := hbw1.size
        try simp at hzw1
        have kw1 : Below w.heap.size w w1 := Below.trans (by repeat (first | (with_reducible assumption) | (with_reducible exact Below.refl _ _) | (with_reducible refine Below.drew ?_) | (with_reducible refine below_drewN ?_ _) | ((with_reducible refine Below.alloc ?_ ?_ _); rotate_left; (focus (first | exact Nat.le_refl _ | omega | (simp; done) | (simp; omega) | (simp at *; omega)))) | ((with_reducible refine Below.setCell ?_ ?_ _); rotate_left; (focus (first | exact Nat.le_refl _ | omega | (simp; done) | (simp; omega) | (simp at *; omega)))))) (hbw1.mono (by (focus (first | exact Nat.le_refl _ | omega | (simp; done) | (simp; omega) | (simp at *; omega)))))
        have kzw1 := kw1.size
        go_wp2
        refine bodyPost_ret (v := (fv 0 0)) (by simp [results, Try.results27, go_sem, *]) rfl ?_
        exact ⟨by rw [HF.out], (by repeat (first | (with_reducible assumption) | (with_reducible exact Below.refl _ _) | (with_reducible refine Below.drew ?_) | (with_reducible refine below_drewN ?_ _) | ((with_reducible refine Below.alloc ?_ ?_ _); rotate_left; (focus (first | exact Nat.le_refl _ | omega | (simp; done) | (simp; omega) | (simp at *; omega)))) | ((with_reducible refine Below.setCell ?_ ?_ _); rotate_left; (focus (first | exact Nat.le_refl _ | omega | (simp; done) | (simp; omega) | (simp at *; omega))))))⟩
      · have HF := Lib.hid (imgF_3 hW hH hN)
        have t3 : ((n : Int) != W * H) = true := by simp [hN]
        clear hN
        go_enter Try.func27, Try.ntmps27
        go_wp2_with fail
        refine (In_any _ _ _ _).mono ?_
        rintro e w' ⟨rfl, rfl⟩
        go_wp2_with fail
        refine (In_any _ _ _ _).mono ?_
        rintro e w' ⟨rfl, rfl⟩
        go_wp2_with fail
        refine (At_any _ _ _).mono ?_
        rintro e w1 ⟨rfl, hbw1⟩
        obtain ⟨hcw1, hfw1⟩ := bcell hbw1
        have hzw1 := hbw1.size
        try simp at hzw1
        have kw1 : Below w.heap.size w w1 := Below.trans (by repeat (first | (with_reducible assumption) | (with_reducible exact Below.refl _ _) | (with_reducible refine Below.drew ?_) | (with_reducible refine below_drewN ?_ _) | ((with_reducible refine Below.alloc ?_ ?_ _); rotate_left; (focus (first | exact Nat.le_refl _ | omega | (simp; done) | (simp; omega) | (simp at *; omega)))) | ((with_reducible refine Below.setCell ?_ ?_ _); rotate_left; (focus (first | exact Nat.le_refl _ | omega | (simp; done) | (simp; omega) | (simp at *; omega)))))) (hbw1.mono (by (focus (first | exact Nat.le_refl _ | omega | (simp; done) | (simp; omega) | (simp at *; omega)))))
        have kzw1 := kw1.size
        go_wp2
        refine bodyPost_ret (v := (fv 9 (-3))) (by simp [results, Try.results27, go_sem, *]) rfl ?_
        exact ⟨by rw [HF.out], (by repeat (first | (with_reducible assumption) | (with_reducible exact Below.refl _ _) | (with_reducible refine Below.drew ?_) | (with_reducible refine below_drewN ?_ _) | ((with_reducible refine Below.alloc ?_ ?_ _); rotate_left; (focus (first | exact Nat.le_refl _ | omega | (simp; done) | (simp; omega) | (simp at *; omega)))) | ((with_reducible refine Below.setCell ?_ ?_ _); rotate_left; (focus (first | exact Nat.le_refl _ | omega | (simp; done) | (simp; omega) | (simp at *; omega))))))⟩
    · have HF := Lib.hid (imgF_2 (n := n) hW (by omega : H < 1 ∨ 640 < H))
      have t2 := inB_no (by omega : H < 1 ∨ 640 < H)
      go_enter Try.func27, Try.ntmps27
      go_wp2_with fail
      refine (In_any _ _ _ _).mono ?_
      rintro e w' ⟨rfl, rfl⟩
      go_wp2_with fail
      refine (In_any _ _ _ _).mono ?_
      rintro e w' ⟨rfl, rfl⟩
      go_wp2_with fail
      refine (At_any _ _ _).mono ?_
      rintro e w1 ⟨rfl, hbw1⟩
      obtain ⟨hcw1, hfw1⟩ := bcell hbw1
      have hzw1 := hbw1.size
      try simp at hzw1
      have kw1 : Below w.heap.size w w1 := Below.trans (by repeat (first | (with_reducible assumption) | (with_reducible exact Below.refl _ _) | (with_reducible refine Below.drew ?_) | (with_reducible refine below_drewN ?_ _) | ((with_reducible refine Below.alloc ?_ ?_ _); rotate_left; (focus (first | exact Nat.le_refl _ | omega | (simp; done) | (simp; omega) | (simp at *; omega)))) | ((with_reducible refine Below.setCell ?_ ?_ _); rotate_left; (focus (first | exact Nat.le_refl _ | omega | (simp; done) | (simp; omega) | (simp at *; omega)))))) (hbw1.mono (by (focus (first | exact Nat.le_refl _ | omega | (simp; done) | (simp; omega) | (simp at *; omega)))))
      have kzw1 := kw1.size
      go_wp2
      refine bodyPost_ret (v := (fv 4 (-2))) (by simp [results, Try.results27, go_sem, *]) rfl ?_
      exact ⟨by rw [HF.out], (by repeat (first | (with_reducible assumption) | (with_reducible exact Below.refl _ _) | (with_reducible refine Below.drew ?_) | (with_reducible refine below_drewN ?_ _) | ((with_reducible refine Below.alloc ?_ ?_ _); rotate_left; (focus (first | exact Nat.le_refl _ | omega | (simp; done) | (simp; omega) | (simp at *; omega)))) | ((with_reducible refine Below.setCell ?_ ?_ _); rotate_left; (focus (first | exact Nat.le_refl _ | omega | (simp; done) | (simp; omega) | (simp at *; omega))))))⟩
  · have HF := Lib.hid (imgF_1 (H := H) (n := n) (by omega : W < 1 ∨ 640 < W))
    have t1 := inB_no (by omega : W < 1 ∨ 640 < W)
    go_enter Try.func27, Try.ntmps27
    go_wp2_with fail
    refine (In_any _ _ _ _).mono ?_
    rintro e w' ⟨rfl, rfl⟩
    go_wp2_with fail
    refine (At_any _ _ _).mono ?_
    rintro e w1 ⟨rfl, hbw1⟩
    obtain ⟨hcw1, hfw1⟩ := bcell hbw1
    have hzw1 := hbw1.size
    try simp at hzw1
    have kw1 : Below w.heap.size w w1 := Below.trans (by repeat (first | (with_reducible assumption) | (with_reducible exact Below.refl _ _) | (with_reducible refine Below.drew ?_) | (with_reducible refine below_drewN ?_ _) | ((with_reducible refine Below.alloc ?_ ?_ _); rotate_left; (focus (first | exact Nat.le_refl _ | omega | (simp; done) | (simp; omega) | (simp at *; omega)))) | ((with_reducible refine Below.setCell ?_ ?_ _); rotate_left; (focus (first | exact Nat.le_refl _ | omega | (simp; done) | (simp; omega) | (simp at *; omega)))))) (hbw1.mono (by (focus (first | exact Nat.le_refl _ | omega | (simp; done) | (simp; omega) | (simp at *; omega)))))
    have kzw1 := kw1.size
    go_wp2
    refine bodyPost_ret (v := (fv 4 (-1))) (by simp [results, Try.results27, go_sem, *]) rfl ?_
    exact ⟨by rw [HF.out], (by repeat (first | (with_reducible assumption) | (with_reducible exact Below.refl _ _) | (with_reducible refine Below.drew ?_) | (with_reducible refine below_drewN ?_ _) | ((with_reducible refine Below.alloc ?_ ?_ _); rotate_left; (focus (first | exact Nat.le_refl _ | omega | (simp; done) | (simp; omega) | (simp at *; omega)))) | ((with_reducible refine Below.setCell ?_ ?_ _); rotate_left; (focus (first | exact Nat.le_refl _ | omega | (simp; done) | (simp; omega) | (simp at *; omega))))))⟩

set_option maxHeartbeats 1000000 in
theorem rValidate_any (A : Option Addr) (n c : Nat) (W H : Int) (w : World) :
    Calls Try.prog 26 #[iv W H A n c] w fun e w' => e = .returned (fv (imgF W H n).1 (imgF W H n).2) ∧ Below w.heap.size w w' := by
  by_cases hW : 1 ≤ W ∧ W ≤ 640
  · by_cases hH : 1 ≤ H ∧ H ≤ 640
    · have hm := mul_bd hW hH
      by_cases hN : (n : Int) = W * H
      · have HF := Lib.hid (imgF_4 hW hH hN)
        have t3 : ((n : Int) != W * H) = false := by simp [hN]
        clear hN
        go_enter Try.func26, Try.ntmps26
        go_wp2
        refine bodyPost_ret (v := (fv 0 0)) (by simp [results, Try.results26, go_sem, *]) rfl ?_
        exact ⟨by rw [HF.out], (by repeat (first | (with_reducible assumption) | (with_reducible exact Below.refl _ _) | (with_reducible refine Below.drew ?_) | (with_reducible refine below_drewN ?_ _) | ((with_reducible refine Below.alloc ?_ ?_ _); rotate_left; (focus (first | exact Nat.le_refl _ | omega | (simp; done) | (simp; omega) | (simp at *; omega)))) | ((with_reducible refine Below.setCell ?_ ?_ _); rotate_left; (focus (first | exact Nat.le_refl _ | omega | (simp; done) | (simp; omega) | (simp at *; omega))))))⟩
      · have HF := Lib.hid (imgF_3 hW hH hN)
        have t3 : ((n : Int) != W * H) = true := by simp [hN]
        clear hN
        go_enter Try.func26, Try.ntmps26
        go_wp2_with fail
        refine (rfault_any _ _ _).mono ?_
        rintro e w1 ⟨rfl, hbw1⟩
        obtain ⟨hcw1, hfw1⟩ := bcell hbw1
        have hzw1 := hbw1.size
        try simp at hzw1
        have kw1 : Below w.heap.size w w1 := Below.trans (by repeat (first | (with_reducible assumption) | (with_reducible exact Below.refl _ _) | (with_reducible refine Below.drew ?_) | (with_reducible refine below_drewN ?_ _) | ((with_reducible refine Below.alloc ?_ ?_ _); rotate_left; (focus (first | exact Nat.le_refl _ | omega | (simp; done) | (simp; omega) | (simp at *; omega)))) | ((with_reducible refine Below.setCell ?_ ?_ _); rotate_left; (focus (first | exact Nat.le_refl _ | omega | (simp; done) | (simp; omega) | (simp at *; omega)))))) (hbw1.mono (by (focus (first | exact Nat.le_refl _ | omega | (simp; done) | (simp; omega) | (simp at *; omega)))))
        have kzw1 := kw1.size
        go_wp2
        refine bodyPost_ret (v := (fv 9 (-3))) (by simp [results, Try.results26, go_sem, *]) rfl ?_
        exact ⟨by rw [HF.out], (by repeat (first | (with_reducible assumption) | (with_reducible exact Below.refl _ _) | (with_reducible refine Below.drew ?_) | (with_reducible refine below_drewN ?_ _) | ((with_reducible refine Below.alloc ?_ ?_ _); rotate_left; (focus (first | exact Nat.le_refl _ | omega | (simp; done) | (simp; omega) | (simp at *; omega)))) | ((with_reducible refine Below.setCell ?_ ?_ _); rotate_left; (focus (first | exact Nat.le_refl _ | omega | (simp; done) | (simp; omega) | (simp at *; omega))))))⟩
    · have HF := Lib.hid (imgF_2 (n := n) hW (by omega : H < 1 ∨ 640 < H))
      by_cases h1 : H < 1
      · go_enter Try.func26, Try.ntmps26
        go_wp2_with fail
        refine (rfault_any _ _ _).mono ?_
        rintro e w1 ⟨rfl, hbw1⟩
        obtain ⟨hcw1, hfw1⟩ := bcell hbw1
        have hzw1 := hbw1.size
        try simp at hzw1
        have kw1 : Below w.heap.size w w1 := Below.trans (by repeat (first | (with_reducible assumption) | (with_reducible exact Below.refl _ _) | (with_reducible refine Below.drew ?_) | (with_reducible refine below_drewN ?_ _) | ((with_reducible refine Below.alloc ?_ ?_ _); rotate_left; (focus (first | exact Nat.le_refl _ | omega | (simp; done) | (simp; omega) | (simp at *; omega)))) | ((with_reducible refine Below.setCell ?_ ?_ _); rotate_left; (focus (first | exact Nat.le_refl _ | omega | (simp; done) | (simp; omega) | (simp at *; omega)))))) (hbw1.mono (by (focus (first | exact Nat.le_refl _ | omega | (simp; done) | (simp; omega) | (simp at *; omega)))))
        have kzw1 := kw1.size
        go_wp2
        refine bodyPost_ret (v := (fv 4 (-2))) (by simp [results, Try.results26, go_sem, *]) rfl ?_
        exact ⟨by rw [HF.out], (by repeat (first | (with_reducible assumption) | (with_reducible exact Below.refl _ _) | (with_reducible refine Below.drew ?_) | (with_reducible refine below_drewN ?_ _) | ((with_reducible refine Below.alloc ?_ ?_ _); rotate_left; (focus (first | exact Nat.le_refl _ | omega | (simp; done) | (simp; omega) | (simp at *; omega)))) | ((with_reducible refine Below.setCell ?_ ?_ _); rotate_left; (focus (first | exact Nat.le_refl _ | omega | (simp; done) | (simp; omega) | (simp at *; omega))))))⟩
      · have h2 : 640 < H := by omega
        go_enter Try.func26, Try.ntmps26
        go_wp2_with fail
        refine (rfault_any _ _ _).mono ?_
        rintro e w1 ⟨rfl, hbw1⟩
        obtain ⟨hcw1, hfw1⟩ := bcell hbw1
        have hzw1 := hbw1.size
        try simp at hzw1
        have kw1 : Below w.heap.size w w1 := Below.trans (by repeat (first | (with_reducible assumption) | (with_reducible exact Below.refl _ _) | (with_reducible refine Below.drew ?_) | (with_reducible refine below_drewN ?_ _) | ((with_reducible refine Below.alloc ?_ ?_ _); rotate_left; (focus (first | exact Nat.le_refl _ | omega | (simp; done) | (simp; omega) | (simp at *; omega)))) | ((with_reducible refine Below.setCell ?_ ?_ _); rotate_left; (focus (first | exact Nat.le_refl _ | omega | (simp; done) | (simp; omega) | (simp at *; omega)))))) (hbw1.mono (by (focus (first | exact Nat.le_refl _ | omega | (simp; done) | (simp; omega) | (simp at *; omega)))))
        have kzw1 := kw1.size
        go_wp2
        refine bodyPost_ret (v := (fv 4 (-2))) (by simp [results, Try.results26, go_sem, *]) rfl ?_
        exact ⟨by rw [HF.out], (by repeat (first | (with_reducible assumption) | (with_reducible exact Below.refl _ _) | (with_reducible refine Below.drew ?_) | (with_reducible refine below_drewN ?_ _) | ((with_reducible refine Below.alloc ?_ ?_ _); rotate_left; (focus (first | exact Nat.le_refl _ | omega | (simp; done) | (simp; omega) | (simp at *; omega)))) | ((with_reducible refine Below.setCell ?_ ?_ _); rotate_left; (focus (first | exact Nat.le_refl _ | omega | (simp; done) | (simp; omega) | (simp at *; omega))))))⟩
  · have HF := Lib.hid (imgF_1 (H := H) (n := n) (by omega : W < 1 ∨ 640 < W))
    by_cases h1 : W < 1
    · go_enter Try.func26, Try.ntmps26
      go_wp2_with fail
      refine (rfault_any _ _ _).mono ?_
      rintro e w1 ⟨rfl, hbw1⟩
      obtain ⟨hcw1, hfw1⟩ := bcell hbw1
      have hzw1 := hbw1.size
      try simp at hzw1
      have kw1 : Below w.heap.size w w1 := Below.trans (by repeat (first | (with_reducible assumption) | (with_reducible exact Below.refl _ _) | (with_reducible refine Below.drew ?_) | (with_reducible refine below_drewN ?_ _) | ((with_reducible refine Below.alloc ?_ ?_ _); rotate_left; (focus (first | exact Nat.le_refl _ | omega | (simp; done) | (simp; omega) | (simp at *; omega)))) | ((with_reducible refine Below.setCell ?_ ?_ _); rotate_left; (focus (first | exact Nat.le_refl _ | omega | (simp; done) | (simp; omega) | (simp at *; omega)))))) (hbw1.mono (by (focus (first | exact Nat.le_refl _ | omega | (simp; done) | (simp; omega) | (simp at *; omega)))))
      have kzw1 := kw1.size
      go_wp2
      refine bodyPost_ret (v := (fv 4 (-1))) (by simp [results, Try.results26, go_sem, *]) rfl ?_
      exact ⟨by rw [HF.out], (by repeat (first | (with_reducible assumption) | (with_reducible exact Below.refl _ _) | (with_reducible refine Below.drew ?_) | (with_reducible refine below_drewN ?_ _) | ((with_reducible refine Below.alloc ?_ ?_ _); rotate_left; (focus (first | exact Nat.le_refl _ | omega | (simp; done) | (simp; omega) | (simp at *; omega)))) | ((with_reducible refine Below.setCell ?_ ?_ _); rotate_left; (focus (first | exact Nat.le_refl _ | omega | (simp; done) | (simp; omega) | (simp at *; omega))))))⟩
    · have h2 : 640 < W := by omega
      go_enter Try.func26, Try.ntmps26
      go_wp2_with fail
      refine (rfault_any _ _ _).mono ?_
      rintro e w1 ⟨rfl, hbw1⟩
      obtain ⟨hcw1, hfw1⟩ := bcell hbw1
      have hzw1 := hbw1.size
      try simp at hzw1
      have kw1 : Below w.heap.size w w1 := Below.trans (by repeat (first | (with_reducible assumption) | (with_reducible exact Below.refl _ _) | (with_reducible refine Below.drew ?_) | (with_reducible refine below_drewN ?_ _) | ((with_reducible refine Below.alloc ?_ ?_ _); rotate_left; (focus (first | exact Nat.le_refl _ | omega | (simp; done) | (simp; omega) | (simp at *; omega)))) | ((with_reducible refine Below.setCell ?_ ?_ _); rotate_left; (focus (first | exact Nat.le_refl _ | omega | (simp; done) | (simp; omega) | (simp at *; omega)))))) (hbw1.mono (by (focus (first | exact Nat.le_refl _ | omega | (simp; done) | (simp; omega) | (simp at *; omega)))))
      have kzw1 := kw1.size
      go_wp2
      refine bodyPost_ret (v := (fv 4 (-1))) (by simp [results, Try.results26, go_sem, *]) rfl ?_
      exact ⟨by rw [HF.out], (by repeat (first | (with_reducible assumption) | (with_reducible exact Below.refl _ _) | (with_reducible refine Below.drew ?_) | (with_reducible refine below_drewN ?_ _) | ((with_reducible refine Below.alloc ?_ ?_ _); rotate_left; (focus (first | exact Nat.le_refl _ | omega | (simp; done) | (simp; omega) | (simp at *; omega)))) | ((with_reducible refine Below.setCell ?_ ?_ _); rotate_left; (focus (first | exact Nat.le_refl _ | omega | (simp; done) | (simp; omega) | (simp at *; omega))))))⟩

/-! ### Byte strings -/
def numsOf (p : Nat → Int) (n : Nat) : List Int := (List.range n).map p
theorem numsOf_get (p : Nat → Int) {n i : Nat} (h : i < n) : (numsOf p n).getD i 0 = p i := by simp [numsOf, List.getD, h]
theorem conv_rd {w : World} {A : Option Addr} {n c : Nat} {p : Nat → Int} (h : RdB w A n p) : (convert 22 9 (.slice A n c)).run Try.prog w = .ok (.string (strOfNums (numsOf p n))) w := by
  rcases Nat.eq_zero_or_pos n with rfl | hn
  · rw [run_convert_bytes_string w 22 9 5 _ 0 c Try.underlying22 Try.underlying5 Try.underlying9]
    cases A <;> simp [Conv.bytesToString, loadCells, numsOf, strOfNums]
    all_goals rfl
  · obtain ⟨b, off, rfl, hc⟩ := h hn
    exact run_convert_bytes_arg w 22 5 Try.underlying22 Try.underlying5 b off n c (numsOf p n) (by simp [numsOf]) (fun i hi => by rw [numsOf_get p hi]; exact hc i hi) 9 Try.underlying9
/-- Are two rows of bytes equal? -/
def sameB (n : Nat) (p : Nat → Int) (m : Nat) (q : Nat → Int) : Bool := (strOfNums (numsOf p n)).toList == (strOfNums (numsOf q m)).toList
theorem byte_inj {a b : Int} (ha : 0 ≤ a ∧ a ≤ 255) (hb : 0 ≤ b ∧ b ≤ 255) (h : UInt8.ofNat a.toNat = UInt8.ofNat b.toNat) : a = b := by
  have := congrArg UInt8.toNat h
  simp at this
  omega
theorem sameB_iff {n m : Nat} {p q : Nat → Int} (hp : Byt p) (hq : Byt q) : sameB n p m q = true ↔ n = m ∧ ∀ i, i < n → p i = q i := by
  unfold sameB
  rw [ByteArray.toList_eq, ByteArray.toList_eq, strOfNums_data, strOfNums_data, beq_iff_eq]
  simp only [numsOf, List.map_map]
  constructor
  · intro h
    have hl : n = m := by simpa using congrArg List.length h
    subst hl
    refine ⟨rfl, fun i hi => ?_⟩
    have := congrArg (fun l => l[i]?) h
    simp only [List.getElem?_map, List.getElem?_range hi, Option.map_some, Option.some.injEq, Function.comp] at this
    exact byte_inj (hp i) (hq i) this
  · rintro ⟨rfl, h⟩
    exact List.map_congr_left fun i hi => by simp [h i (List.mem_range.1 hi)]

set_option maxHeartbeats 400000 in
theorem Same_any (A B : Option Addr) (n c m d : Nat) (p q : Nat → Int) (w : World) (h1 : RdB w A n p) (h2 : RdB w B m q) :
    Calls Try.prog 83 #[.slice A n c, .slice B m d] w fun e w' => e = .returned (.bool (sameB n p m q)) ∧ w = w' := by
  have e1 := conv_rd (c := c) h1
  have e2 := conv_rd (c := d) h2
  clear h1 h2
  generalize hs : strOfNums (numsOf p n) = s at *
  generalize ht : strOfNums (numsOf q m) = t at *
  have HF : Hid (sameB n p m q = (s.toList == t.toList)) := Lib.hid (by unfold sameB; rw [hs, ht])
  clear hs ht
  go_enter Try.func83, Try.ntmps83
  go_wp2
  go_ret
  exact ⟨by rw [HF.out]; rfl, rfl⟩

/-- Are two images equal? -/
def sameI (W H : Int) (n : Nat) (p : Nat → Int) (V K : Int) (m : Nat) (q : Nat → Int) : Bool := (W == V) && ((H == K) && sameB n p m q)

set_option maxHeartbeats 1000000 in
theorem SameImage_any (A B : Option Addr) (n c m d : Nat) (W H V K : Int) (p q : Nat → Int) (w : World) (h1 : RdB w A n p) (h2 : RdB w B m q) :
    Calls Try.prog 29 #[iv W H A n c, iv V K B m d] w fun e w' => e = .returned (.bool (sameI W H n p V K m q)) ∧ Below w.heap.size w w' := by
  have H1 := rd_later h1
  have H2 := rd_later h2
  clear h1 h2
  by_cases hW : W = V
  · by_cases hH : H = K
    · have HF : Hid (sameI W H n p V K m q = sameB n p m q) := Lib.hid (by simp [sameI, hW, hH])
      have t1 : (W == V) = true := by simp [hW]
      have t2 : (H == K) = true := by simp [hH]
      clear hW hH
      go_enter Try.func29, Try.ntmps29
      go_wp2_with fail
      refine (Same_any A B n c m d p q _ (H1.out _ (by repeat (first | (with_reducible assumption) | (with_reducible exact Below.refl _ _) | (with_reducible refine Below.drew ?_) | (with_reducible refine below_drewN ?_ _) | ((with_reducible refine Below.alloc ?_ ?_ _); rotate_left; (focus (first | exact Nat.le_refl _ | omega | (simp; done) | (simp; omega) | (simp at *; omega)))) | ((with_reducible refine Below.setCell ?_ ?_ _); rotate_left; (focus (first | exact Nat.le_refl _ | omega | (simp; done) | (simp; omega) | (simp at *; omega))))))) (H2.out _ (by repeat (first | (with_reducible assumption) | (with_reducible exact Below.refl _ _) | (with_reducible refine Below.drew ?_) | (with_reducible refine below_drewN ?_ _) | ((with_reducible refine Below.alloc ?_ ?_ _); rotate_left; (focus (first | exact Nat.le_refl _ | omega | (simp; done) | (simp; omega) | (simp at *; omega)))) | ((with_reducible refine Below.setCell ?_ ?_ _); rotate_left; (focus (first | exact Nat.le_refl _ | omega | (simp; done) | (simp; omega) | (simp at *; omega)))))))).mono ?_
      rintro e w' ⟨rfl, rfl⟩
      go_wp2
      go_ret
      exact ⟨by rw [HF.out]; rfl, (by repeat (first | (with_reducible assumption) | (with_reducible exact Below.refl _ _) | (with_reducible refine Below.drew ?_) | (with_reducible refine below_drewN ?_ _) | ((with_reducible refine Below.alloc ?_ ?_ _); rotate_left; (focus (first | exact Nat.le_refl _ | omega | (simp; done) | (simp; omega) | (simp at *; omega)))) | ((with_reducible refine Below.setCell ?_ ?_ _); rotate_left; (focus (first | exact Nat.le_refl _ | omega | (simp; done) | (simp; omega) | (simp at *; omega))))))⟩
    · have HF : Hid (sameI W H n p V K m q = false) := Lib.hid (by simp [sameI, hH])
      have t1 : (W == V) = true := by simp [hW]
      have t2 : (H == K) = false := by simp [hH]
      clear hW hH
      go_enter Try.func29, Try.ntmps29
      go_wp2
      go_ret
      exact ⟨by rw [HF.out]; rfl, (by repeat (first | (with_reducible assumption) | (with_reducible exact Below.refl _ _) | (with_reducible refine Below.drew ?_) | (with_reducible refine below_drewN ?_ _) | ((with_reducible refine Below.alloc ?_ ?_ _); rotate_left; (focus (first | exact Nat.le_refl _ | omega | (simp; done) | (simp; omega) | (simp at *; omega)))) | ((with_reducible refine Below.setCell ?_ ?_ _); rotate_left; (focus (first | exact Nat.le_refl _ | omega | (simp; done) | (simp; omega) | (simp at *; omega))))))⟩
  · have HF : Hid (sameI W H n p V K m q = false) := Lib.hid (by simp [sameI, hW])
    have t1 : (W == V) = false := by simp [hW]
    clear hW
    go_enter Try.func29, Try.ntmps29
    go_wp2
    go_ret
    exact ⟨by rw [HF.out]; rfl, (by repeat (first | (with_reducible assumption) | (with_reducible exact Below.refl _ _) | (with_reducible refine Below.drew ?_) | (with_reducible refine below_drewN ?_ _) | ((with_reducible refine Below.alloc ?_ ?_ _); rotate_left; (focus (first | exact Nat.le_refl _ | omega | (simp; done) | (simp; omega) | (simp at *; omega)))) | ((with_reducible refine Below.setCell ?_ ?_ _); rotate_left; (focus (first | exact Nat.le_refl _ | omega | (simp; done) | (simp; omega) | (simp at *; omega))))))⟩

/-- The pixel of an image at a place; white outside. -/
def px (W H : Int) (p : Nat → Int) (x y : Int) : Int := if 0 ≤ x ∧ x < W ∧ 0 ≤ y ∧ y < H then p (y * W + x).toNat else 255
theorem idx_bd {x y W H : Int} (hW : 1 ≤ W ∧ W ≤ 640) (hH : 1 ≤ H ∧ H ≤ 640) (hx : 0 ≤ x ∧ x < W) (hy : 0 ≤ y ∧ y < H) :
    0 ≤ y * W ∧ y * W ≤ 409600 ∧ 0 ≤ y * W + x ∧ y * W + x < W * H := by
  have a : 0 ≤ y * W := Int.mul_nonneg hy.1 (by omega)
  have b : y * W ≤ (H - 1) * W := Int.mul_le_mul_of_nonneg_right (by omega) (by omega)
  have c : (H - 1) * W = W * H - W := by rw [Int.sub_mul, Int.one_mul, Int.mul_comm]
  have d := mul_bd hW hH
  omega
theorem px_in {W H x y : Int} {p : Nat → Int} (hx : 0 ≤ x ∧ x < W) (hy : 0 ≤ y ∧ y < H) : px W H p x y = p (y * W + x).toNat := by unfold px; rw [if_pos ⟨hx.1, hx.2, hy.1, hy.2⟩]
theorem px_out {W H x y : Int} {p : Nat → Int} (h : ¬(0 ≤ x ∧ x < W ∧ 0 ≤ y ∧ y < H)) : px W H p x y = 255 := by unfold px; rw [if_neg h]
theorem px_byt {W H : Int} {p : Nat → Int} (hp : Byt p) (x y : Int) : 0 ≤ px W H p x y ∧ px W H p x y ≤ 255 := by
  unfold px; split
  · exact hp _
  · decide

set_option maxHeartbeats 1000000 in
theorem Pixel_any (A : Option Addr) (n c : Nat) (W H x y : Int) (p : Nat → Int) (w : World) (hi : ImgOk W H n) (hr : RdB w A n p) :
    Calls Try.prog 33 #[iv W H A n c, .int .i64 x, .int .i64 y] w fun e w' => e = .returned (.int .u8 (px W H p x y)) ∧ Below w.heap.size w w' := by
  obtain ⟨w1, w2, h1, h2, len⟩ := hi
  have H1 := rd_later hr
  clear hr
  by_cases hx : 0 ≤ x ∧ x < W
  · have t1 := inB_yes hx.1 (by omega : x ≤ W - 1)
    by_cases hy : 0 ≤ y ∧ y < H
    · have t2 := inB_yes hy.1 (by omega : y ≤ H - 1)
      have HF := Lib.hid (px_in (p := p) hx hy)
      obtain ⟨b1, b2, b3, b4⟩ := idx_bd ⟨w1, w2⟩ ⟨h1, h2⟩ hx hy
      have hlt : y * W + x < (n : Int) := by omega
      obtain ⟨b, off, rfl, hc⟩ := (H1.out (w.alloc (.cells #[.int .i64 W, .int .i64 H, .slice A n c] 26)) (by repeat (first | (with_reducible assumption) | (with_reducible exact Below.refl _ _) | (with_reducible refine Below.drew ?_) | (with_reducible refine below_drewN ?_ _) | ((with_reducible refine Below.alloc ?_ ?_ _); rotate_left; (focus (first | exact Nat.le_refl _ | omega | (simp; done) | (simp; omega) | (simp at *; omega)))) | ((with_reducible refine Below.setCell ?_ ?_ _); rotate_left; (focus (first | exact Nat.le_refl _ | omega | (simp; done) | (simp; omega) | (simp at *; omega))))))) (by omega)
      have hck := hc (y * W + x).toNat (by omega)
      clear hc b4 len
      go_enter Try.func33, Try.ntmps33
      go_wp2_with fail
      refine (In_any _ _ _ _).mono ?_
      rintro e w' ⟨rfl, rfl⟩
      go_wp2_with fail
      refine (In_any _ _ _ _).mono ?_
      rintro e w' ⟨rfl, rfl⟩
      go_wp2
      go_ret
      exact ⟨by rw [HF.out]; rfl, (by repeat (first | (with_reducible assumption) | (with_reducible exact Below.refl _ _) | (with_reducible refine Below.drew ?_) | (with_reducible refine below_drewN ?_ _) | ((with_reducible refine Below.alloc ?_ ?_ _); rotate_left; (focus (first | exact Nat.le_refl _ | omega | (simp; done) | (simp; omega) | (simp at *; omega)))) | ((with_reducible refine Below.setCell ?_ ?_ _); rotate_left; (focus (first | exact Nat.le_refl _ | omega | (simp; done) | (simp; omega) | (simp at *; omega))))))⟩
    · have t2 := inB_no (by omega : y < 0 ∨ H - 1 < y)
      have HF : Hid (px W H p x y = 255) := Lib.hid (px_out (by omega))
      clear len
      go_enter Try.func33, Try.ntmps33
      go_wp2_with fail
      refine (In_any _ _ _ _).mono ?_
      rintro e w' ⟨rfl, rfl⟩
      go_wp2_with fail
      refine (In_any _ _ _ _).mono ?_
      rintro e w' ⟨rfl, rfl⟩
      go_wp2
      go_ret
      exact ⟨by rw [HF.out]; rfl, (by repeat (first | (with_reducible assumption) | (with_reducible exact Below.refl _ _) | (with_reducible refine Below.drew ?_) | (with_reducible refine below_drewN ?_ _) | ((with_reducible refine Below.alloc ?_ ?_ _); rotate_left; (focus (first | exact Nat.le_refl _ | omega | (simp; done) | (simp; omega) | (simp at *; omega)))) | ((with_reducible refine Below.setCell ?_ ?_ _); rotate_left; (focus (first | exact Nat.le_refl _ | omega | (simp; done) | (simp; omega) | (simp at *; omega))))))⟩
  · have t1 := inB_no (by omega : x < 0 ∨ W - 1 < x)
    have HF : Hid (px W H p x y = 255) := Lib.hid (px_out (by omega))
    clear len
    go_enter Try.func33, Try.ntmps33
    go_wp2_with fail
    refine (In_any _ _ _ _).mono ?_
    rintro e w' ⟨rfl, rfl⟩
    go_wp2
    go_ret
    exact ⟨by rw [HF.out]; rfl, (by repeat (first | (with_reducible assumption) | (with_reducible exact Below.refl _ _) | (with_reducible refine Below.drew ?_) | (with_reducible refine below_drewN ?_ _) | ((with_reducible refine Below.alloc ?_ ?_ _); rotate_left; (focus (first | exact Nat.le_refl _ | omega | (simp; done) | (simp; omega) | (simp at *; omega)))) | ((with_reducible refine Below.setCell ?_ ?_ _); rotate_left; (focus (first | exact Nat.le_refl _ | omega | (simp; done) | (simp; omega) | (simp at *; omega))))))⟩

end Go.Proofs.Ytpdjiokmafoppaa
