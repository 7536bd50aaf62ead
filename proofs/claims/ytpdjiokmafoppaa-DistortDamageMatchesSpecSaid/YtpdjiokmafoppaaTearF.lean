/- The checks of tears: ref5.TearCode, distort.checkFill, distort.inside, ref6.TearFault. No conditions but the image's validity. -/
import Derived.Test.YtpdjiokmafoppaaAnswer
namespace Go.Proofs.Ytpdjiokmafoppaa
open Go.RowKit

/-- The value of a tear. -/
abbrev tv (L T TW TH : Int) (A : Option Addr) (n c : Nat) : Value := .agg #[.int .i64 L, .int .i64 T, .int .i64 TW, .int .i64 TH, .slice A n c]
/-- The code of a tear's filling; of a tear. -/
def fiC (m : Nat) : Int := if m = 0 then 10 else if 64 < m then 3 else 0
def teC (L T TW TH : Int) (m : Nat) : Int := if m = 0 then 10 else if 64 < m then 3 else if L < 0 ∨ T < 0 ∨ TW < 0 ∨ TH < 0 then 4 else 0
/-- Does a tear lie in an image? -/
def inT (W H L T TW TH : Int) : Bool := decide (0 ≤ L ∧ 0 ≤ T ∧ 0 ≤ TW ∧ 0 ≤ TH ∧ L ≤ W ∧ T ≤ H ∧ TW ≤ W - L ∧ TH ≤ H - T)
/-- The fault of a tear of a valid image. -/
def teF (W H L T TW TH : Int) (m : Nat) : Int × Int := if teC L T TW TH m ≠ 0 then (teC L T TW TH m, -2) else if inT W H L T TW TH then (0, 0) else (4, -2)
/-- A tear that is valid. -/
structure TearOk (W H L T TW TH : Int) (m : Nat) : Prop where
  m1 : 0 < m
  m2 : m ≤ 64
  l : 0 ≤ L ∧ L ≤ W
  t : 0 ≤ T ∧ T ≤ H
  w : 0 ≤ TW ∧ TW ≤ W - L
  h : 0 ≤ TH ∧ TH ≤ H - T
theorem teF_ok {W H L T TW TH : Int} {m : Nat} (h : TearOk W H L T TW TH m) : teF W H L T TW TH m = (0, 0) := by
  obtain ⟨a, b, c, d, e, f⟩ := h
  have h1 : teC L T TW TH m = 0 := by unfold teC; rw [if_neg (by omega), if_neg (by omega), if_neg (by omega)]
  have h2 : inT W H L T TW TH = true := by unfold inT; exact decide_eq_true ⟨c.1, d.1, e.1, f.1, c.2, d.2, e.2, f.2⟩
  unfold teF; rw [if_neg (by rw [h1]; decide), h2]; rfl
/-- A tear is valid or refused. -/
theorem teF_cases (W H L T TW TH : Int) (m : Nat) : TearOk W H L T TW TH m ∨ (teF W H L T TW TH m).1 ≠ 0 := by
  unfold teF
  by_cases h : teC L T TW TH m = 0
  · rw [if_neg (by simpa using h)]
    cases e : inT W H L T TW TH with
    | false => right; decide
    | true =>
      left
      unfold inT at e
      have e := of_decide_eq_true e
      unfold teC at h
      refine ⟨?_, ?_, ⟨e.1, e.2.2.2.2.1⟩, ⟨e.2.1, e.2.2.2.2.2.1⟩, ⟨e.2.2.1, e.2.2.2.2.2.2.1⟩, ⟨e.2.2.2.1, e.2.2.2.2.2.2.2⟩⟩
      · apply Nat.pos_of_ne_zero; intro z; rw [if_pos z] at h; exact absurd h (by decide)
      · apply Nat.le_of_not_lt; intro z; rw [if_neg (by omega), if_pos z] at h; exact absurd h (by decide)
  · right; rw [if_pos (by simpa using h)]; exact h

theorem checkFill_any (A : Option Addr) (n c : Nat) (L T TW TH : Int) (w : World) : Calls Try.prog 127 #[tv L T TW TH A n c] w fun e w' => e = .returned (.int .i64 (fiC n)) ∧ Below w.heap.size w w' := by
  by_cases h0 : n = 0
  · have HF : Hid (fiC n = 10) := Lib.hid (by unfold fiC; rw [if_pos h0])
    go_enter Try.func127, Try.ntmps127
    go_wp2
    go_ret
    exact ⟨by rw [HF.out]; rfl, (by repeat (first | (with_reducible assumption) | (with_reducible exact Below.refl _ _) | (with_reducible refine Below.drew ?_) | (with_reducible refine below_drewN ?_ _) | ((with_reducible refine Below.alloc ?_ ?_ _); rotate_left; (focus (first | exact Nat.le_refl _ | omega | (simp; done) | (simp; omega) | (simp at *; omega)))) | ((with_reducible refine Below.setCell ?_ ?_ _); rotate_left; (focus (first | exact Nat.le_refl _ | omega | (simp; done) | (simp; omega) | (simp at *; omega))))))⟩
  · have h1 : ¬ (n : Int) = 0 := by omega
    by_cases h2 : 64 < n
    · have h3 : (64 : Int) < (n : Int) := by omega
      have HF : Hid (fiC n = 3) := Lib.hid (by unfold fiC; rw [if_neg h0, if_pos h2])
      go_enter Try.func127, Try.ntmps127
      go_wp2
      go_ret
      exact ⟨by rw [HF.out]; rfl, (by repeat (first | (with_reducible assumption) | (with_reducible exact Below.refl _ _) | (with_reducible refine Below.drew ?_) | (with_reducible refine below_drewN ?_ _) | ((with_reducible refine Below.alloc ?_ ?_ _); rotate_left; (focus (first | exact Nat.le_refl _ | omega | (simp; done) | (simp; omega) | (simp at *; omega)))) | ((with_reducible refine Below.setCell ?_ ?_ _); rotate_left; (focus (first | exact Nat.le_refl _ | omega | (simp; done) | (simp; omega) | (simp at *; omega))))))⟩
    · have h3 : (n : Int) ≤ 64 := by omega
      have HF : Hid (fiC n = 0) := Lib.hid (by unfold fiC; rw [if_neg h0, if_neg h2])
      go_enter Try.func127, Try.ntmps127
      go_wp2
      go_ret
      exact ⟨by rw [HF.out]; rfl, (by repeat (first | (with_reducible assumption) | (with_reducible exact Below.refl _ _) | (with_reducible refine Below.drew ?_) | (with_reducible refine below_drewN ?_ _) | ((with_reducible refine Below.alloc ?_ ?_ _); rotate_left; (focus (first | exact Nat.le_refl _ | omega | (simp; done) | (simp; omega) | (simp at *; omega)))) | ((with_reducible refine Below.setCell ?_ ?_ _); rotate_left; (focus (first | exact Nat.le_refl _ | omega | (simp; done) | (simp; omega) | (simp at *; omega))))))⟩

theorem TearCode_any (A : Option Addr) (n c : Nat) (L T TW TH : Int) (w : World) : Calls Try.prog 126 #[tv L T TW TH A n c] w fun e w' => e = .returned (.int .i64 (teC L T TW TH n)) ∧ Below w.heap.size w w' := by
  by_cases h0 : n = 0
  · have HF : Hid (teC L T TW TH n = 10) := Lib.hid (by unfold teC; rw [if_pos h0])
    go_enter Try.func126, Try.ntmps126
    go_wp2
    go_ret
    exact ⟨by rw [HF.out]; rfl, (by repeat (first | (with_reducible assumption) | (with_reducible exact Below.refl _ _) | (with_reducible refine Below.drew ?_) | (with_reducible refine below_drewN ?_ _) | ((with_reducible refine Below.alloc ?_ ?_ _); rotate_left; (focus (first | exact Nat.le_refl _ | omega | (simp; done) | (simp; omega) | (simp at *; omega)))) | ((with_reducible refine Below.setCell ?_ ?_ _); rotate_left; (focus (first | exact Nat.le_refl _ | omega | (simp; done) | (simp; omega) | (simp at *; omega))))))⟩
  have h1 : ¬ (n : Int) = 0 := by omega
  by_cases h2 : 64 < n
  · have h3 : (64 : Int) < (n : Int) := by omega
    have HF : Hid (teC L T TW TH n = 3) := Lib.hid (by unfold teC; rw [if_neg h0, if_pos h2])
    go_enter Try.func126, Try.ntmps126
    go_wp2
    go_ret
    exact ⟨by rw [HF.out]; rfl, (by repeat (first | (with_reducible assumption) | (with_reducible exact Below.refl _ _) | (with_reducible refine Below.drew ?_) | (with_reducible refine below_drewN ?_ _) | ((with_reducible refine Below.alloc ?_ ?_ _); rotate_left; (focus (first | exact Nat.le_refl _ | omega | (simp; done) | (simp; omega) | (simp at *; omega)))) | ((with_reducible refine Below.setCell ?_ ?_ _); rotate_left; (focus (first | exact Nat.le_refl _ | omega | (simp; done) | (simp; omega) | (simp at *; omega))))))⟩
  have h3 : (n : Int) ≤ 64 := by omega
  by_cases hL : L < 0
  · have HF : Hid (teC L T TW TH n = 4) := Lib.hid (by unfold teC; rw [if_neg h0, if_neg h2, if_pos (by omega)])
    go_enter Try.func126, Try.ntmps126
    go_wp2
    go_ret
    exact ⟨by rw [HF.out]; rfl, (by repeat (first | (with_reducible assumption) | (with_reducible exact Below.refl _ _) | (with_reducible refine Below.drew ?_) | (with_reducible refine below_drewN ?_ _) | ((with_reducible refine Below.alloc ?_ ?_ _); rotate_left; (focus (first | exact Nat.le_refl _ | omega | (simp; done) | (simp; omega) | (simp at *; omega)))) | ((with_reducible refine Below.setCell ?_ ?_ _); rotate_left; (focus (first | exact Nat.le_refl _ | omega | (simp; done) | (simp; omega) | (simp at *; omega))))))⟩
  by_cases hT : T < 0
  · have HF : Hid (teC L T TW TH n = 4) := Lib.hid (by unfold teC; rw [if_neg h0, if_neg h2, if_pos (by omega)])
    go_enter Try.func126, Try.ntmps126
    go_wp2
    go_ret
    exact ⟨by rw [HF.out]; rfl, (by repeat (first | (with_reducible assumption) | (with_reducible exact Below.refl _ _) | (with_reducible refine Below.drew ?_) | (with_reducible refine below_drewN ?_ _) | ((with_reducible refine Below.alloc ?_ ?_ _); rotate_left; (focus (first | exact Nat.le_refl _ | omega | (simp; done) | (simp; omega) | (simp at *; omega)))) | ((with_reducible refine Below.setCell ?_ ?_ _); rotate_left; (focus (first | exact Nat.le_refl _ | omega | (simp; done) | (simp; omega) | (simp at *; omega))))))⟩
  by_cases hTW : TW < 0
  · have HF : Hid (teC L T TW TH n = 4) := Lib.hid (by unfold teC; rw [if_neg h0, if_neg h2, if_pos (by omega)])
    go_enter Try.func126, Try.ntmps126
    go_wp2
    go_ret
    exact ⟨by rw [HF.out]; rfl, (by repeat (first | (with_reducible assumption) | (with_reducible exact Below.refl _ _) | (with_reducible refine Below.drew ?_) | (with_reducible refine below_drewN ?_ _) | ((with_reducible refine Below.alloc ?_ ?_ _); rotate_left; (focus (first | exact Nat.le_refl _ | omega | (simp; done) | (simp; omega) | (simp at *; omega)))) | ((with_reducible refine Below.setCell ?_ ?_ _); rotate_left; (focus (first | exact Nat.le_refl _ | omega | (simp; done) | (simp; omega) | (simp at *; omega))))))⟩
  by_cases hTH : TH < 0
  · have HF : Hid (teC L T TW TH n = 4) := Lib.hid (by unfold teC; rw [if_neg h0, if_neg h2, if_pos (by omega)])
    go_enter Try.func126, Try.ntmps126
    go_wp2
    go_ret
    exact ⟨by rw [HF.out]; rfl, (by repeat (first | (with_reducible assumption) | (with_reducible exact Below.refl _ _) | (with_reducible refine Below.drew ?_) | (with_reducible refine below_drewN ?_ _) | ((with_reducible refine Below.alloc ?_ ?_ _); rotate_left; (focus (first | exact Nat.le_refl _ | omega | (simp; done) | (simp; omega) | (simp at *; omega)))) | ((with_reducible refine Below.setCell ?_ ?_ _); rotate_left; (focus (first | exact Nat.le_refl _ | omega | (simp; done) | (simp; omega) | (simp at *; omega))))))⟩
  have HF : Hid (teC L T TW TH n = 0) := Lib.hid (by unfold teC; rw [if_neg h0, if_neg h2, if_neg (by omega)])
  go_enter Try.func126, Try.ntmps126
  go_wp2
  go_ret
  exact ⟨by rw [HF.out]; rfl, (by repeat (first | (with_reducible assumption) | (with_reducible exact Below.refl _ _) | (with_reducible refine Below.drew ?_) | (with_reducible refine below_drewN ?_ _) | ((with_reducible refine Below.alloc ?_ ?_ _); rotate_left; (focus (first | exact Nat.le_refl _ | omega | (simp; done) | (simp; omega) | (simp at *; omega)))) | ((with_reducible refine Below.setCell ?_ ?_ _); rotate_left; (focus (first | exact Nat.le_refl _ | omega | (simp; done) | (simp; omega) | (simp at *; omega))))))⟩

set_option maxHeartbeats 1000000 in
theorem inside_any (A B : Option Addr) (n c m d : Nat) (W H L T TW TH : Int) (hW : 1 ≤ W ∧ W ≤ 640) (hH : 1 ≤ H ∧ H ≤ 640) (w : World) : Calls Try.prog 128 #[iv W H A n c, tv L T TW TH B m d] w fun e w' => e = .returned (.bool (inT W H L T TW TH)) ∧ Below w.heap.size w w' := by
  by_cases h0 : 0 ≤ L
  rotate_left
  · have HF : Hid (inT W H L T TW TH = false) := Lib.hid (by unfold inT; exact decide_eq_false (by omega))
    go_enter Try.func128, Try.ntmps128
    go_wp2
    go_ret
    exact ⟨by rw [HF.out]; rfl, (by repeat (first | (with_reducible assumption) | (with_reducible exact Below.refl _ _) | (with_reducible refine Below.drew ?_) | (with_reducible refine below_drewN ?_ _) | ((with_reducible refine Below.alloc ?_ ?_ _); rotate_left; (focus (first | exact Nat.le_refl _ | omega | (simp; done) | (simp; omega) | (simp at *; omega)))) | ((with_reducible refine Below.setCell ?_ ?_ _); rotate_left; (focus (first | exact Nat.le_refl _ | omega | (simp; done) | (simp; omega) | (simp at *; omega))))))⟩
  by_cases h1 : 0 ≤ T
  rotate_left
  · have HF : Hid (inT W H L T TW TH = false) := Lib.hid (by unfold inT; exact decide_eq_false (by omega))
    go_enter Try.func128, Try.ntmps128
    go_wp2
    go_ret
    exact ⟨by rw [HF.out]; rfl, (by repeat (first | (with_reducible assumption) | (with_reducible exact Below.refl _ _) | (with_reducible refine Below.drew ?_) | (with_reducible refine below_drewN ?_ _) | ((with_reducible refine Below.alloc ?_ ?_ _); rotate_left; (focus (first | exact Nat.le_refl _ | omega | (simp; done) | (simp; omega) | (simp at *; omega)))) | ((with_reducible refine Below.setCell ?_ ?_ _); rotate_left; (focus (first | exact Nat.le_refl _ | omega | (simp; done) | (simp; omega) | (simp at *; omega))))))⟩
  by_cases h2 : 0 ≤ TW
  rotate_left
  · have HF : Hid (inT W H L T TW TH = false) := Lib.hid (by unfold inT; exact decide_eq_false (by omega))
    go_enter Try.func128, Try.ntmps128
    go_wp2
    go_ret
    exact ⟨by rw [HF.out]; rfl, (by repeat (first | (with_reducible assumption) | (with_reducible exact Below.refl _ _) | (with_reducible refine Below.drew ?_) | (with_reducible refine below_drewN ?_ _) | ((with_reducible refine Below.alloc ?_ ?_ _); rotate_left; (focus (first | exact Nat.le_refl _ | omega | (simp; done) | (simp; omega) | (simp at *; omega)))) | ((with_reducible refine Below.setCell ?_ ?_ _); rotate_left; (focus (first | exact Nat.le_refl _ | omega | (simp; done) | (simp; omega) | (simp at *; omega))))))⟩
  by_cases h3 : 0 ≤ TH
  rotate_left
  · have HF : Hid (inT W H L T TW TH = false) := Lib.hid (by unfold inT; exact decide_eq_false (by omega))
    go_enter Try.func128, Try.ntmps128
    go_wp2
    go_ret
    exact ⟨by rw [HF.out]; rfl, (by repeat (first | (with_reducible assumption) | (with_reducible exact Below.refl _ _) | (with_reducible refine Below.drew ?_) | (with_reducible refine below_drewN ?_ _) | ((with_reducible refine Below.alloc ?_ ?_ _); rotate_left; (focus (first | exact Nat.le_refl _ | omega | (simp; done) | (simp; omega) | (simp at *; omega)))) | ((with_reducible refine Below.setCell ?_ ?_ _); rotate_left; (focus (first | exact Nat.le_refl _ | omega | (simp; done) | (simp; omega) | (simp at *; omega))))))⟩
  by_cases h4 : L ≤ W
  rotate_left
  · have HF : Hid (inT W H L T TW TH = false) := Lib.hid (by unfold inT; exact decide_eq_false (by omega))
    go_enter Try.func128, Try.ntmps128
    go_wp2
    go_ret
    exact ⟨by rw [HF.out]; rfl, (by repeat (first | (with_reducible assumption) | (with_reducible exact Below.refl _ _) | (with_reducible refine Below.drew ?_) | (with_reducible refine below_drewN ?_ _) | ((with_reducible refine Below.alloc ?_ ?_ _); rotate_left; (focus (first | exact Nat.le_refl _ | omega | (simp; done) | (simp; omega) | (simp at *; omega)))) | ((with_reducible refine Below.setCell ?_ ?_ _); rotate_left; (focus (first | exact Nat.le_refl _ | omega | (simp; done) | (simp; omega) | (simp at *; omega))))))⟩
  by_cases h5 : T ≤ H
  rotate_left
  · have HF : Hid (inT W H L T TW TH = false) := Lib.hid (by unfold inT; exact decide_eq_false (by omega))
    go_enter Try.func128, Try.ntmps128
    go_wp2
    go_ret
    exact ⟨by rw [HF.out]; rfl, (by repeat (first | (with_reducible assumption) | (with_reducible exact Below.refl _ _) | (with_reducible refine Below.drew ?_) | (with_reducible refine below_drewN ?_ _) | ((with_reducible refine Below.alloc ?_ ?_ _); rotate_left; (focus (first | exact Nat.le_refl _ | omega | (simp; done) | (simp; omega) | (simp at *; omega)))) | ((with_reducible refine Below.setCell ?_ ?_ _); rotate_left; (focus (first | exact Nat.le_refl _ | omega | (simp; done) | (simp; omega) | (simp at *; omega))))))⟩
  by_cases h6 : TW ≤ W - L
  rotate_left
  · have HF : Hid (inT W H L T TW TH = false) := Lib.hid (by unfold inT; exact decide_eq_false (by omega))
    go_enter Try.func128, Try.ntmps128
    go_wp2
    go_ret
    exact ⟨by rw [HF.out]; rfl, (by repeat (first | (with_reducible assumption) | (with_reducible exact Below.refl _ _) | (with_reducible refine Below.drew ?_) | (with_reducible refine below_drewN ?_ _) | ((with_reducible refine Below.alloc ?_ ?_ _); rotate_left; (focus (first | exact Nat.le_refl _ | omega | (simp; done) | (simp; omega) | (simp at *; omega)))) | ((with_reducible refine Below.setCell ?_ ?_ _); rotate_left; (focus (first | exact Nat.le_refl _ | omega | (simp; done) | (simp; omega) | (simp at *; omega))))))⟩
  by_cases h7 : TH ≤ H - T
  rotate_left
  · have HF : Hid (inT W H L T TW TH = false) := Lib.hid (by unfold inT; exact decide_eq_false (by omega))
    go_enter Try.func128, Try.ntmps128
    go_wp2
    go_ret
    exact ⟨by rw [HF.out]; rfl, (by repeat (first | (with_reducible assumption) | (with_reducible exact Below.refl _ _) | (with_reducible refine Below.drew ?_) | (with_reducible refine below_drewN ?_ _) | ((with_reducible refine Below.alloc ?_ ?_ _); rotate_left; (focus (first | exact Nat.le_refl _ | omega | (simp; done) | (simp; omega) | (simp at *; omega)))) | ((with_reducible refine Below.setCell ?_ ?_ _); rotate_left; (focus (first | exact Nat.le_refl _ | omega | (simp; done) | (simp; omega) | (simp at *; omega))))))⟩
  have HF : Hid (inT W H L T TW TH = true) := Lib.hid (by unfold inT; exact decide_eq_true (by omega))
  go_enter Try.func128, Try.ntmps128
  go_wp2
  go_ret
  exact ⟨by rw [HF.out]; rfl, (by repeat (first | (with_reducible assumption) | (with_reducible exact Below.refl _ _) | (with_reducible refine Below.drew ?_) | (with_reducible refine below_drewN ?_ _) | ((with_reducible refine Below.alloc ?_ ?_ _); rotate_left; (focus (first | exact Nat.le_refl _ | omega | (simp; done) | (simp; omega) | (simp at *; omega)))) | ((with_reducible refine Below.setCell ?_ ?_ _); rotate_left; (focus (first | exact Nat.le_refl _ | omega | (simp; done) | (simp; omega) | (simp at *; omega))))))⟩

set_option maxHeartbeats 1000000 in
theorem TearFault_any (A B : Option Addr) (n c m d : Nat) (W H L T TW TH : Int) (hW : 1 ≤ W ∧ W ≤ 640) (hH : 1 ≤ H ∧ H ≤ 640) (w : World) : Calls Try.prog 67 #[iv W H A n c, tv L T TW TH B m d] w fun e w' => e = .returned (fv (teF W H L T TW TH m).1 (teF W H L T TW TH m).2) ∧ Below w.heap.size w w' := by
  have HTC := Lib.hid (TearCode_any B m d L T TW TH)
  by_cases hc : teC L T TW TH m = 0
  rotate_left
  · have hb0 : (teC L T TW TH m != 0) = true := by simpa using hc
    have HF : Hid (teF W H L T TW TH m = (teC L T TW TH m, -2)) := Lib.hid (by unfold teF; rw [if_pos hc])
    clear hc
    go_enter Try.func67, Try.ntmps67
    go_wp2_with fail
    refine (HTC.out _).mono ?_
    rintro e w1 ⟨rfl, hbw1⟩
    obtain ⟨hcw1, hfw1⟩ := bcell hbw1
    have hzw1 := hbw1.size
    try simp at hzw1
    have kw1 : Below w.heap.size w w1 := Below.trans (by repeat (first | (with_reducible assumption) | (with_reducible exact Below.refl _ _) | (with_reducible refine Below.drew ?_) | (with_reducible refine below_drewN ?_ _) | ((with_reducible refine Below.alloc ?_ ?_ _); rotate_left; (focus (first | exact Nat.le_refl _ | omega | (simp; done) | (simp; omega) | (simp at *; omega)))) | ((with_reducible refine Below.setCell ?_ ?_ _); rotate_left; (focus (first | exact Nat.le_refl _ | omega | (simp; done) | (simp; omega) | (simp at *; omega)))))) (hbw1.mono (by (focus (first | exact Nat.le_refl _ | omega | (simp; done) | (simp; omega) | (simp at *; omega)))))
    have kzw1 := kw1.size
    have lw1w0 : w.heap.size < w1.heap.size := by omega
    have lw1w1 : w.heap.size + 1 < w1.heap.size := by omega
    have lw1w2 : w.heap.size + 2 < w1.heap.size := by omega
    go_wp2_with fail
    refine (At_any _ _ _).mono ?_
    rintro e w2 ⟨rfl, hbw2⟩
    obtain ⟨hcw2, hfw2⟩ := bcell hbw2
    have hzw2 := hbw2.size
    try simp at hzw2
    have kw2 : Below w.heap.size w w2 := Below.trans (by repeat (first | (with_reducible assumption) | (with_reducible exact Below.refl _ _) | (with_reducible refine Below.drew ?_) | (with_reducible refine below_drewN ?_ _) | ((with_reducible refine Below.alloc ?_ ?_ _); rotate_left; (focus (first | exact Nat.le_refl _ | omega | (simp; done) | (simp; omega) | (simp at *; omega)))) | ((with_reducible refine Below.setCell ?_ ?_ _); rotate_left; (focus (first | exact Nat.le_refl _ | omega | (simp; done) | (simp; omega) | (simp at *; omega)))))) (hbw2.mono (by (focus (first | exact Nat.le_refl _ | omega | (simp; done) | (simp; omega) | (simp at *; omega)))))
    have kzw2 := kw2.size
    have lw2w0 : w.heap.size < w2.heap.size := by omega
    have lw2w1 : w.heap.size + 1 < w2.heap.size := by omega
    have lw2w2 : w.heap.size + 2 < w2.heap.size := by omega
    go_wp2
    refine bodyPost_ret (v := (fv (teC L T TW TH m) (-2))) (by simp [results, Try.results67, go_sem, *]) rfl ?_
    exact ⟨by rw [HF.out], (by repeat (first | (with_reducible assumption) | (with_reducible exact Below.refl _ _) | (with_reducible refine Below.drew ?_) | (with_reducible refine below_drewN ?_ _) | ((with_reducible refine Below.alloc ?_ ?_ _); rotate_left; (focus (first | exact Nat.le_refl _ | omega | (simp; done) | (simp; omega) | (simp at *; omega)))) | ((with_reducible refine Below.setCell ?_ ?_ _); rotate_left; (focus (first | exact Nat.le_refl _ | omega | (simp; done) | (simp; omega) | (simp at *; omega))))))⟩
  have hpos : 0 ≤ L ∧ 0 ≤ T ∧ 0 ≤ TW ∧ 0 ≤ TH := by
    unfold teC at hc
    by_cases h0 : m = 0
    · rw [if_pos h0] at hc; exact absurd hc (by decide)
    · by_cases h1 : 64 < m
      · rw [if_neg h0, if_pos h1] at hc; exact absurd hc (by decide)
      · rw [if_neg h0, if_neg h1] at hc
        by_cases h2 : L < 0 ∨ T < 0 ∨ TW < 0 ∨ TH < 0
        · rw [if_pos h2] at hc; exact absurd hc (by decide)
        · omega
  obtain ⟨p1, p2, p3, p4⟩ := hpos
  rw [hc] at HTC
  have HC := Lib.hid hc
  clear hc
  by_cases h0 : L ≤ W
  rotate_left
  · have HF : Hid (teF W H L T TW TH m = (4, -2)) := Lib.hid (by
      unfold teF
      rw [if_neg (by rw [HC.out]; decide), show inT W H L T TW TH = false from by unfold inT; exact decide_eq_false (by omega)]; rfl)
    go_enter Try.func67, Try.ntmps67
    go_wp2_with fail
    refine (HTC.out _).mono ?_
    rintro e w1 ⟨rfl, hbw1⟩
    obtain ⟨hcw1, hfw1⟩ := bcell hbw1
    have hzw1 := hbw1.size
    try simp at hzw1
    have kw1 : Below w.heap.size w w1 := Below.trans (by repeat (first | (with_reducible assumption) | (with_reducible exact Below.refl _ _) | (with_reducible refine Below.drew ?_) | (with_reducible refine below_drewN ?_ _) | ((with_reducible refine Below.alloc ?_ ?_ _); rotate_left; (focus (first | exact Nat.le_refl _ | omega | (simp; done) | (simp; omega) | (simp at *; omega)))) | ((with_reducible refine Below.setCell ?_ ?_ _); rotate_left; (focus (first | exact Nat.le_refl _ | omega | (simp; done) | (simp; omega) | (simp at *; omega)))))) (hbw1.mono (by (focus (first | exact Nat.le_refl _ | omega | (simp; done) | (simp; omega) | (simp at *; omega)))))
    have kzw1 := kw1.size
    have lw1w0 : w.heap.size < w1.heap.size := by omega
    have lw1w1 : w.heap.size + 1 < w1.heap.size := by omega
    have lw1w2 : w.heap.size + 2 < w1.heap.size := by omega
    go_wp2_with fail
    refine (At_any _ _ _).mono ?_
    rintro e w2 ⟨rfl, hbw2⟩
    obtain ⟨hcw2, hfw2⟩ := bcell hbw2
    have hzw2 := hbw2.size
    try simp at hzw2
    have kw2 : Below w.heap.size w w2 := Below.trans (by repeat (first | (with_reducible assumption) | (with_reducible exact Below.refl _ _) | (with_reducible refine Below.drew ?_) | (with_reducible refine below_drewN ?_ _) | ((with_reducible refine Below.alloc ?_ ?_ _); rotate_left; (focus (first | exact Nat.le_refl _ | omega | (simp; done) | (simp; omega) | (simp at *; omega)))) | ((with_reducible refine Below.setCell ?_ ?_ _); rotate_left; (focus (first | exact Nat.le_refl _ | omega | (simp; done) | (simp; omega) | (simp at *; omega)))))) (hbw2.mono (by (focus (first | exact Nat.le_refl _ | omega | (simp; done) | (simp; omega) | (simp at *; omega)))))
    have kzw2 := kw2.size
    have lw2w0 : w.heap.size < w2.heap.size := by omega
    have lw2w1 : w.heap.size + 1 < w2.heap.size := by omega
    have lw2w2 : w.heap.size + 2 < w2.heap.size := by omega
    go_wp2
    refine bodyPost_ret (v := (fv 4 (-2))) (by simp [results, Try.results67, go_sem, *]) rfl ?_
    exact ⟨by rw [HF.out], (by repeat (first | (with_reducible assumption) | (with_reducible exact Below.refl _ _) | (with_reducible refine Below.drew ?_) | (with_reducible refine below_drewN ?_ _) | ((with_reducible refine Below.alloc ?_ ?_ _); rotate_left; (focus (first | exact Nat.le_refl _ | omega | (simp; done) | (simp; omega) | (simp at *; omega)))) | ((with_reducible refine Below.setCell ?_ ?_ _); rotate_left; (focus (first | exact Nat.le_refl _ | omega | (simp; done) | (simp; omega) | (simp at *; omega))))))⟩
  by_cases h1 : TW ≤ W - L
  rotate_left
  · have HF : Hid (teF W H L T TW TH m = (4, -2)) := Lib.hid (by
      unfold teF
      rw [if_neg (by rw [HC.out]; decide), show inT W H L T TW TH = false from by unfold inT; exact decide_eq_false (by omega)]; rfl)
    go_enter Try.func67, Try.ntmps67
    go_wp2_with fail
    refine (HTC.out _).mono ?_
    rintro e w1 ⟨rfl, hbw1⟩
    obtain ⟨hcw1, hfw1⟩ := bcell hbw1
    have hzw1 := hbw1.size
    try simp at hzw1
    have kw1 : Below w.heap.size w w1 := Below.trans (by repeat (first | (with_reducible assumption) | (with_reducible exact Below.refl _ _) | (with_reducible refine Below.drew ?_) | (with_reducible refine below_drewN ?_ _) | ((with_reducible refine Below.alloc ?_ ?_ _); rotate_left; (focus (first | exact Nat.le_refl _ | omega | (simp; done) | (simp; omega) | (simp at *; omega)))) | ((with_reducible refine Below.setCell ?_ ?_ _); rotate_left; (focus (first | exact Nat.le_refl _ | omega | (simp; done) | (simp; omega) | (simp at *; omega)))))) (hbw1.mono (by (focus (first | exact Nat.le_refl _ | omega | (simp; done) | (simp; omega) | (simp at *; omega)))))
    have kzw1 := kw1.size
    have lw1w0 : w.heap.size < w1.heap.size := by omega
    have lw1w1 : w.heap.size + 1 < w1.heap.size := by omega
    have lw1w2 : w.heap.size + 2 < w1.heap.size := by omega
    go_wp2_with fail
    refine (At_any _ _ _).mono ?_
    rintro e w2 ⟨rfl, hbw2⟩
    obtain ⟨hcw2, hfw2⟩ := bcell hbw2
    have hzw2 := hbw2.size
    try simp at hzw2
    have kw2 : Below w.heap.size w w2 := Below.trans (by repeat (first | (with_reducible assumption) | (with_reducible exact Below.refl _ _) | (with_reducible refine Below.drew ?_) | (with_reducible refine below_drewN ?_ _) | ((with_reducible refine Below.alloc ?_ ?_ _); rotate_left; (focus (first | exact Nat.le_refl _ | omega | (simp; done) | (simp; omega) | (simp at *; omega)))) | ((with_reducible refine Below.setCell ?_ ?_ _); rotate_left; (focus (first | exact Nat.le_refl _ | omega | (simp; done) | (simp; omega) | (simp at *; omega)))))) (hbw2.mono (by (focus (first | exact Nat.le_refl _ | omega | (simp; done) | (simp; omega) | (simp at *; omega)))))
    have kzw2 := kw2.size
    have lw2w0 : w.heap.size < w2.heap.size := by omega
    have lw2w1 : w.heap.size + 1 < w2.heap.size := by omega
    have lw2w2 : w.heap.size + 2 < w2.heap.size := by omega
    go_wp2
    refine bodyPost_ret (v := (fv 4 (-2))) (by simp [results, Try.results67, go_sem, *]) rfl ?_
    exact ⟨by rw [HF.out], (by repeat (first | (with_reducible assumption) | (with_reducible exact Below.refl _ _) | (with_reducible refine Below.drew ?_) | (with_reducible refine below_drewN ?_ _) | ((with_reducible refine Below.alloc ?_ ?_ _); rotate_left; (focus (first | exact Nat.le_refl _ | omega | (simp; done) | (simp; omega) | (simp at *; omega)))) | ((with_reducible refine Below.setCell ?_ ?_ _); rotate_left; (focus (first | exact Nat.le_refl _ | omega | (simp; done) | (simp; omega) | (simp at *; omega))))))⟩
  by_cases h2 : T ≤ H
  rotate_left
  · have HF : Hid (teF W H L T TW TH m = (4, -2)) := Lib.hid (by
      unfold teF
      rw [if_neg (by rw [HC.out]; decide), show inT W H L T TW TH = false from by unfold inT; exact decide_eq_false (by omega)]; rfl)
    go_enter Try.func67, Try.ntmps67
    go_wp2_with fail
    refine (HTC.out _).mono ?_
    rintro e w1 ⟨rfl, hbw1⟩
    obtain ⟨hcw1, hfw1⟩ := bcell hbw1
    have hzw1 := hbw1.size
    try simp at hzw1
    have kw1 : Below w.heap.size w w1 := Below.trans (by repeat (first | (with_reducible assumption) | (with_reducible exact Below.refl _ _) | (with_reducible refine Below.drew ?_) | (with_reducible refine below_drewN ?_ _) | ((with_reducible refine Below.alloc ?_ ?_ _); rotate_left; (focus (first | exact Nat.le_refl _ | omega | (simp; done) | (simp; omega) | (simp at *; omega)))) | ((with_reducible refine Below.setCell ?_ ?_ _); rotate_left; (focus (first | exact Nat.le_refl _ | omega | (simp; done) | (simp; omega) | (simp at *; omega)))))) (hbw1.mono (by (focus (first | exact Nat.le_refl _ | omega | (simp; done) | (simp; omega) | (simp at *; omega)))))
    have kzw1 := kw1.size
    have lw1w0 : w.heap.size < w1.heap.size := by omega
    have lw1w1 : w.heap.size + 1 < w1.heap.size := by omega
    have lw1w2 : w.heap.size + 2 < w1.heap.size := by omega
    go_wp2_with fail
    refine (At_any _ _ _).mono ?_
    rintro e w2 ⟨rfl, hbw2⟩
    obtain ⟨hcw2, hfw2⟩ := bcell hbw2
    have hzw2 := hbw2.size
    try simp at hzw2
    have kw2 : Below w.heap.size w w2 := Below.trans (by repeat (first | (with_reducible assumption) | (with_reducible exact Below.refl _ _) | (with_reducible refine Below.drew ?_) | (with_reducible refine below_drewN ?_ _) | ((with_reducible refine Below.alloc ?_ ?_ _); rotate_left; (focus (first | exact Nat.le_refl _ | omega | (simp; done) | (simp; omega) | (simp at *; omega)))) | ((with_reducible refine Below.setCell ?_ ?_ _); rotate_left; (focus (first | exact Nat.le_refl _ | omega | (simp; done) | (simp; omega) | (simp at *; omega)))))) (hbw2.mono (by (focus (first | exact Nat.le_refl _ | omega | (simp; done) | (simp; omega) | (simp at *; omega)))))
    have kzw2 := kw2.size
    have lw2w0 : w.heap.size < w2.heap.size := by omega
    have lw2w1 : w.heap.size + 1 < w2.heap.size := by omega
    have lw2w2 : w.heap.size + 2 < w2.heap.size := by omega
    go_wp2
    refine bodyPost_ret (v := (fv 4 (-2))) (by simp [results, Try.results67, go_sem, *]) rfl ?_
    exact ⟨by rw [HF.out], (by repeat (first | (with_reducible assumption) | (with_reducible exact Below.refl _ _) | (with_reducible refine Below.drew ?_) | (with_reducible refine below_drewN ?_ _) | ((with_reducible refine Below.alloc ?_ ?_ _); rotate_left; (focus (first | exact Nat.le_refl _ | omega | (simp; done) | (simp; omega) | (simp at *; omega)))) | ((with_reducible refine Below.setCell ?_ ?_ _); rotate_left; (focus (first | exact Nat.le_refl _ | omega | (simp; done) | (simp; omega) | (simp at *; omega))))))⟩
  by_cases h3 : TH ≤ H - T
  rotate_left
  · have HF : Hid (teF W H L T TW TH m = (4, -2)) := Lib.hid (by
      unfold teF
      rw [if_neg (by rw [HC.out]; decide), show inT W H L T TW TH = false from by unfold inT; exact decide_eq_false (by omega)]; rfl)
    go_enter Try.func67, Try.ntmps67
    go_wp2_with fail
    refine (HTC.out _).mono ?_
    rintro e w1 ⟨rfl, hbw1⟩
    obtain ⟨hcw1, hfw1⟩ := bcell hbw1
    have hzw1 := hbw1.size
    try simp at hzw1
    have kw1 : Below w.heap.size w w1 := Below.trans (by repeat (first | (with_reducible assumption) | (with_reducible exact Below.refl _ _) | (with_reducible refine Below.drew ?_) | (with_reducible refine below_drewN ?_ _) | ((with_reducible refine Below.alloc ?_ ?_ _); rotate_left; (focus (first | exact Nat.le_refl _ | omega | (simp; done) | (simp; omega) | (simp at *; omega)))) | ((with_reducible refine Below.setCell ?_ ?_ _); rotate_left; (focus (first | exact Nat.le_refl _ | omega | (simp; done) | (simp; omega) | (simp at *; omega)))))) (hbw1.mono (by (focus (first | exact Nat.le_refl _ | omega | (simp; done) | (simp; omega) | (simp at *; omega)))))
    have kzw1 := kw1.size
    have lw1w0 : w.heap.size < w1.heap.size := by omega
    have lw1w1 : w.heap.size + 1 < w1.heap.size := by omega
    have lw1w2 : w.heap.size + 2 < w1.heap.size := by omega
    go_wp2_with fail
    refine (At_any _ _ _).mono ?_
    rintro e w2 ⟨rfl, hbw2⟩
    obtain ⟨hcw2, hfw2⟩ := bcell hbw2
    have hzw2 := hbw2.size
    try simp at hzw2
    have kw2 : Below w.heap.size w w2 := Below.trans (by repeat (first | (with_reducible assumption) | (with_reducible exact Below.refl _ _) | (with_reducible refine Below.drew ?_) | (with_reducible refine below_drewN ?_ _) | ((with_reducible refine Below.alloc ?_ ?_ _); rotate_left; (focus (first | exact Nat.le_refl _ | omega | (simp; done) | (simp; omega) | (simp at *; omega)))) | ((with_reducible refine Below.setCell ?_ ?_ _); rotate_left; (focus (first | exact Nat.le_refl _ | omega | (simp; done) | (simp; omega) | (simp at *; omega)))))) (hbw2.mono (by (focus (first | exact Nat.le_refl _ | omega | (simp; done) | (simp; omega) | (simp at *; omega)))))
    have kzw2 := kw2.size
    have lw2w0 : w.heap.size < w2.heap.size := by omega
    have lw2w1 : w.heap.size + 1 < w2.heap.size := by omega
    have lw2w2 : w.heap.size + 2 < w2.heap.size := by omega
    go_wp2
    refine bodyPost_ret (v := (fv 4 (-2))) (by simp [results, Try.results67, go_sem, *]) rfl ?_
    exact ⟨by rw [HF.out], (by repeat (first | (with_reducible assumption) | (with_reducible exact Below.refl _ _) | (with_reducible refine Below.drew ?_) | (with_reducible refine below_drewN ?_ _) | ((with_reducible refine Below.alloc ?_ ?_ _); rotate_left; (focus (first | exact Nat.le_refl _ | omega | (simp; done) | (simp; omega) | (simp at *; omega)))) | ((with_reducible refine Below.setCell ?_ ?_ _); rotate_left; (focus (first | exact Nat.le_refl _ | omega | (simp; done) | (simp; omega) | (simp at *; omega))))))⟩
  have HF : Hid (teF W H L T TW TH m = (0, 0)) := Lib.hid (by
    unfold teF
    rw [if_neg (by rw [HC.out]; decide), show inT W H L T TW TH = true from by unfold inT; exact decide_eq_true (by omega)]; rfl)
  go_enter Try.func67, Try.ntmps67
  go_wp2_with fail
  refine (HTC.out _).mono ?_
  rintro e w1 ⟨rfl, hbw1⟩
  obtain ⟨hcw1, hfw1⟩ := bcell hbw1
  have hzw1 := hbw1.size
  try simp at hzw1
  have kw1 : Below w.heap.size w w1 := Below.trans (by repeat (first | (with_reducible assumption) | (with_reducible exact Below.refl _ _) | (with_reducible refine Below.drew ?_) | (with_reducible refine below_drewN ?_ _) | ((with_reducible refine Below.alloc ?_ ?_ _); rotate_left; (focus (first | exact Nat.le_refl _ | omega | (simp; done) | (simp; omega) | (simp at *; omega)))) | ((with_reducible refine Below.setCell ?_ ?_ _); rotate_left; (focus (first | exact Nat.le_refl _ | omega | (simp; done) | (simp; omega) | (simp at *; omega)))))) (hbw1.mono (by (focus (first | exact Nat.le_refl _ | omega | (simp; done) | (simp; omega) | (simp at *; omega)))))
  have kzw1 := kw1.size
  have lw1w0 : w.heap.size < w1.heap.size := by omega
  have lw1w1 : w.heap.size + 1 < w1.heap.size := by omega
  have lw1w2 : w.heap.size + 2 < w1.heap.size := by omega
  go_wp2_with fail
  refine (At_any _ _ _).mono ?_
  rintro e w2 ⟨rfl, hbw2⟩
  obtain ⟨hcw2, hfw2⟩ := bcell hbw2
  have hzw2 := hbw2.size
  try simp at hzw2
  have kw2 : Below w.heap.size w w2 := Below.trans (by repeat (first | (with_reducible assumption) | (with_reducible exact Below.refl _ _) | (with_reducible refine Below.drew ?_) | (with_reducible refine below_drewN ?_ _) | ((with_reducible refine Below.alloc ?_ ?_ _); rotate_left; (focus (first | exact Nat.le_refl _ | omega | (simp; done) | (simp; omega) | (simp at *; omega)))) | ((with_reducible refine Below.setCell ?_ ?_ _); rotate_left; (focus (first | exact Nat.le_refl _ | omega | (simp; done) | (simp; omega) | (simp at *; omega)))))) (hbw2.mono (by (focus (first | exact Nat.le_refl _ | omega | (simp; done) | (simp; omega) | (simp at *; omega)))))
  have kzw2 := kw2.size
  have lw2w0 : w.heap.size < w2.heap.size := by omega
  have lw2w1 : w.heap.size + 1 < w2.heap.size := by omega
  have lw2w2 : w.heap.size + 2 < w2.heap.size := by omega
  go_wp2
  refine bodyPost_ret (v := (fv 0 (0))) (by simp [results, Try.results67, go_sem, *]) rfl ?_
  exact ⟨by rw [HF.out], (by repeat (first | (with_reducible assumption) | (with_reducible exact Below.refl _ _) | (with_reducible refine Below.drew ?_) | (with_reducible refine below_drewN ?_ _) | ((with_reducible refine Below.alloc ?_ ?_ _); rotate_left; (focus (first | exact Nat.le_refl _ | omega | (simp; done) | (simp; omega) | (simp at *; omega)))) | ((with_reducible refine Below.setCell ?_ ?_ _); rotate_left; (focus (first | exact Nat.le_refl _ | omega | (simp; done) | (simp; omega) | (simp at *; omega))))))⟩

end Go.Proofs.Ytpdjiokmafoppaa
