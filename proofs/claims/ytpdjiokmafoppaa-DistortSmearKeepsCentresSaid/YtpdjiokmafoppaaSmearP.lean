/- Plain facts about turned images: the pixel at any place, smearing and turning commute, two turns are one. No program. -/
import Derived.Test.YtpdjiokmafoppaaCompose
import Derived.Test.YtpdjiokmafoppaaSmear
namespace Go.Proofs.Ytpdjiokmafoppaa
open Go.RowKit

/-- Inside is inside. -/
theorem src_in {W H t x y : Int} (ht : 0 ≤ t ∧ t ≤ 7) : (0 ≤ x ∧ x < tuW W H t ∧ 0 ≤ y ∧ y < tuH W H t) ↔ (0 ≤ (srcP W H t x y).1 ∧ (srcP W H t x y).1 < W ∧ 0 ≤ (srcP W H t x y).2 ∧ (srcP W H t x y).2 < H) := by
  rcases tu_cases ht with rfl | rfl | rfl | rfl | rfl | rfl | rfl | rfl <;> simp [srcP, tuW, tuH] <;> omega
theorem px_tu {W H t x y : Int} {p : Nat → Int} (ht : 0 ≤ t ∧ t ≤ 7) : px (tuW W H t) (tuH W H t) (tuF W H t p) x y = px W H p (srcP W H t x y).1 (srcP W H t x y).2 := by
  by_cases h : 0 ≤ x ∧ x < tuW W H t ∧ 0 ≤ y ∧ y < tuH W H t
  · have h2 := (src_in ht).1 h
    rw [px_pt ⟨h.1, h.2.1⟩ ⟨h.2.2.1, h.2.2.2⟩, px_pt ⟨h2.1, h2.2.1⟩ ⟨h2.2.2.1, h2.2.2.2⟩, pt_tu ⟨h.1, h.2.1⟩ ⟨h.2.2.1, h.2.2.2⟩]
  · rw [px_out h, px_out (fun a => h ((src_in ht).2 a))]
/-- The nine pixels about a place. -/
def nine (F : Int → Int → Int) (x y : Int) : Int :=
  F (x - 1) (y - 1) + F x (y - 1) + F (x + 1) (y - 1) + F (x - 1) y + F x y + F (x + 1) y + F (x - 1) (y + 1) + F x (y + 1) + F (x + 1) (y + 1)
theorem smSum_nine {W H : Int} {p : Nat → Int} (n : Nat) : smSum W H p n 9 = nine (px W H p) ((n : Int) % W) ((n : Int) / W) := by
  have e : ∀ a b c d : Int, a = c → b = d → px W H p a b = px W H p c d := fun a b c d h1 h2 => by rw [h1, h2]
  simp only [smSum, nine]
  rw [e ((n : Int) % W + ((0 : Nat) : Int) % 3 - 1) ((n : Int) / W + ((0 : Nat) : Int) / 3 - 1) ((n : Int) % W - 1) ((n : Int) / W - 1) (by omega) (by omega),
    e ((n : Int) % W + ((1 : Nat) : Int) % 3 - 1) ((n : Int) / W + ((1 : Nat) : Int) / 3 - 1) ((n : Int) % W) ((n : Int) / W - 1) (by omega) (by omega),
    e ((n : Int) % W + ((2 : Nat) : Int) % 3 - 1) ((n : Int) / W + ((2 : Nat) : Int) / 3 - 1) ((n : Int) % W + 1) ((n : Int) / W - 1) (by omega) (by omega),
    e ((n : Int) % W + ((3 : Nat) : Int) % 3 - 1) ((n : Int) / W + ((3 : Nat) : Int) / 3 - 1) ((n : Int) % W - 1) ((n : Int) / W) (by omega) (by omega),
    e ((n : Int) % W + ((4 : Nat) : Int) % 3 - 1) ((n : Int) / W + ((4 : Nat) : Int) / 3 - 1) ((n : Int) % W) ((n : Int) / W) (by omega) (by omega),
    e ((n : Int) % W + ((5 : Nat) : Int) % 3 - 1) ((n : Int) / W + ((5 : Nat) : Int) / 3 - 1) ((n : Int) % W + 1) ((n : Int) / W) (by omega) (by omega),
    e ((n : Int) % W + ((6 : Nat) : Int) % 3 - 1) ((n : Int) / W + ((6 : Nat) : Int) / 3 - 1) ((n : Int) % W - 1) ((n : Int) / W + 1) (by omega) (by omega),
    e ((n : Int) % W + ((7 : Nat) : Int) % 3 - 1) ((n : Int) / W + ((7 : Nat) : Int) / 3 - 1) ((n : Int) % W) ((n : Int) / W + 1) (by omega) (by omega),
    e ((n : Int) % W + ((8 : Nat) : Int) % 3 - 1) ((n : Int) / W + ((8 : Nat) : Int) / 3 - 1) ((n : Int) % W + 1) ((n : Int) / W + 1) (by omega) (by omega)]
  omega
theorem nine_tu {W H t x y : Int} {p : Nat → Int} (ht : 0 ≤ t ∧ t ≤ 7) : nine (px (tuW W H t) (tuH W H t) (tuF W H t p)) x y = nine (px W H p) (srcP W H t x y).1 (srcP W H t x y).2 := by
  have e : ∀ a b c d : Int, a = c → b = d → px W H p a b = px W H p c d := fun a b c d h1 h2 => by rw [h1, h2]
  unfold nine
  simp only [px_tu ht]
  rcases tu_cases ht with rfl | rfl | rfl | rfl | rfl | rfl | rfl | rfl
  · simp [srcP]
  · simp only [srcP]; simp
    rw [e (y - 1) (H - 1 - (x - 1)) (y - 1) (H - 1 - x + 1) (by omega) (by omega), e (y - 1) (H - 1 - (x + 1)) (y - 1) (H - 1 - x - 1) (by omega) (by omega), e y (H - 1 - (x - 1)) y (H - 1 - x + 1) (by omega) (by omega), e y (H - 1 - (x + 1)) y (H - 1 - x - 1) (by omega) (by omega), e (y + 1) (H - 1 - (x - 1)) (y + 1) (H - 1 - x + 1) (by omega) (by omega), e (y + 1) (H - 1 - (x + 1)) (y + 1) (H - 1 - x - 1) (by omega) (by omega)]
    omega
  · simp only [srcP]; simp
    have a1 : W - 1 - (x - 1) = W - 1 - x + 1 := by omega
    have a2 : W - 1 - (x + 1) = W - 1 - x - 1 := by omega
    have b1 : H - 1 - (y - 1) = H - 1 - y + 1 := by omega
    have b2 : H - 1 - (y + 1) = H - 1 - y - 1 := by omega
    rw [a1, a2, b1, b2]; omega
  · simp only [srcP]; simp
    have a1 : W - 1 - (y - 1) = W - 1 - y + 1 := by omega
    have a2 : W - 1 - (y + 1) = W - 1 - y - 1 := by omega
    rw [a1, a2]; omega
  · simp only [srcP]; simp
    have a1 : W - 1 - (x - 1) = W - 1 - x + 1 := by omega
    have a2 : W - 1 - (x + 1) = W - 1 - x - 1 := by omega
    rw [a1, a2]; omega
  · simp only [srcP]; simp
    have a1 : W - 1 - (y - 1) = W - 1 - y + 1 := by omega
    have a2 : W - 1 - (y + 1) = W - 1 - y - 1 := by omega
    have b1 : H - 1 - (x - 1) = H - 1 - x + 1 := by omega
    have b2 : H - 1 - (x + 1) = H - 1 - x - 1 := by omega
    rw [a1, a2, b1, b2]; omega
  · simp only [srcP]; simp
    have b1 : H - 1 - (y - 1) = H - 1 - y + 1 := by omega
    have b2 : H - 1 - (y + 1) = H - 1 - y - 1 := by omega
    rw [b1, b2]; omega
  · simp only [srcP]; simp
    omega
/-- Smearing and turning commute. -/
theorem smear_turn {W H t : Int} {n : Nat} {p : Nat → Int} (hi : ImgOk W H n) (ht : 0 ≤ t ∧ t ≤ 7) : ∀ k, k < n → smF (tuW W H t) (tuH W H t) (tuF W H t p) k = tuF W H t (smF W H p) k := fun k hk => by
  obtain ⟨hx, hy, _⟩ := pix_bd (tu_img (t := t) hi) hk
  have h2 := (src_in (W := W) (H := H) ht).1 ⟨hx.1, hx.2, hy.1, hy.2⟩
  show smSum _ _ _ k 9 / 9 = pt W (smF W H p) (srcP W H t ((k : Int) % tuW W H t) ((k : Int) / tuW W H t)).1 (srcP W H t ((k : Int) % tuW W H t) ((k : Int) / tuW W H t)).2
  generalize hX : (srcP W H t ((k : Int) % tuW W H t) ((k : Int) / tuW W H t)).1 = X at *
  generalize hY : (srcP W H t ((k : Int) % tuW W H t) ((k : Int) / tuW W H t)).2 = Y at *
  have h0 := Int.mul_nonneg h2.2.2.1 (show 0 ≤ W by omega)
  obtain ⟨s1, s2⟩ := split_at (W := W) (x := X) (y := Y) ⟨h2.1, h2.2.1⟩ h2.2.2.1
  unfold pt smF
  rw [smSum_nine, smSum_nine, nine_tu ht, hX, hY, show ((Y * W + X).toNat : Int) = Y * W + X from by omega, s1, s2]

/-- Two turns are one. -/
theorem src_src {W H s t x y : Int} (hs : 0 ≤ s ∧ s ≤ 7) (ht : 0 ≤ t ∧ t ≤ 7) :
    srcP W H s (srcP (tuW W H s) (tuH W H s) t x y).1 (srcP (tuW W H s) (tuH W H s) t x y).2 = srcP W H (coF s t) x y := by
  rcases tu_cases hs with rfl | rfl | rfl | rfl | rfl | rfl | rfl | rfl <;> rcases tu_cases ht with rfl | rfl | rfl | rfl | rfl | rfl | rfl | rfl <;>
    simp [srcP, tuW, tuH, coF] <;> omega
theorem tu_co {W H s t : Int} (hs : 0 ≤ s ∧ s ≤ 7) (ht : 0 ≤ t ∧ t ≤ 7) : tuW (tuW W H s) (tuH W H s) t = tuW W H (coF s t) ∧ tuH (tuW W H s) (tuH W H s) t = tuH W H (coF s t) := by
  rcases tu_cases hs with rfl | rfl | rfl | rfl | rfl | rfl | rfl | rfl <;> rcases tu_cases ht with rfl | rfl | rfl | rfl | rfl | rfl | rfl | rfl <;>
    simp [tuW, tuH, coF]
theorem turn_turn {W H s t : Int} {n : Nat} {p : Nat → Int} (hi : ImgOk W H n) (hs : 0 ≤ s ∧ s ≤ 7) (ht : 0 ≤ t ∧ t ≤ 7) :
    ∀ k, k < n → tuF (tuW W H s) (tuH W H s) t (tuF W H s p) k = tuF W H (coF s t) p k := fun k hk => by
  obtain ⟨hx, hy, _⟩ := pix_bd (tu_img (t := t) (tu_img (t := s) hi)) hk
  have h2 := (src_in (W := tuW W H s) (H := tuH W H s) ht).1 ⟨hx.1, hx.2, hy.1, hy.2⟩
  show pt (tuW W H s) (tuF W H s p) _ _ = pt W p _ _
  rw [pt_tu ⟨h2.1, h2.2.1⟩ ⟨h2.2.2.1, h2.2.2.2⟩, (tu_co hs ht).1, src_src hs ht]
/-- The turn that undoes a turn. -/
def inF (t : Int) : Int := if t = 1 then 3 else if t = 3 then 1 else t
theorem inF_bd {t : Int} (h : 0 ≤ t ∧ t ≤ 7) : 0 ≤ inF t ∧ inF t ≤ 7 := by
  unfold inF
  split
  · omega
  · split <;> omega
theorem co_in {t : Int} (h : 0 ≤ t ∧ t ≤ 7) : coF t (inF t) = 0 := by
  rcases tu_cases h with rfl | rfl | rfl | rfl | rfl | rfl | rfl | rfl <;> rfl
theorem co_ne {t u : Int} (h : 0 ≤ t ∧ t ≤ 7) (h1 : 0 ≤ u) (h2 : u < inF t) : coF t u ≠ 0 := by
  have hu : 0 ≤ u ∧ u ≤ 7 := ⟨h1, by have := (inF_bd h).2; omega⟩
  rcases tu_cases h with rfl | rfl | rfl | rfl | rfl | rfl | rfl | rfl <;> rcases tu_cases hu with rfl | rfl | rfl | rfl | rfl | rfl | rfl | rfl <;> revert h2 <;> decide
theorem tu_0 {W H : Int} (p : Nat → Int) (k : Nat) : tuF W H 0 p k = p k := mk2_pt p k

end Go.Proofs.Ytpdjiokmafoppaa
