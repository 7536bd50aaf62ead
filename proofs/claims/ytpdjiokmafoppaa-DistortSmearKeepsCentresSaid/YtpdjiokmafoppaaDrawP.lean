/- The drawing of a page in plain Lean: its fault and its pixels. No program. -/
import Derived.Test.YtpdjiokmafoppaaMake2
namespace Go.Proofs.Ytpdjiokmafoppaa
open Go.RowKit

def shadeOf (L v : Int) : Int := 255 * (L - 1 - v) / (L - 1)
/-- Pixel k of the drawing of a page. -/
def dpx (L R s l t W : Int) (p : Nat → Int) (k : Nat) : Int :=
  if 0 ≤ (k : Int) % W - l ∧ 0 ≤ (k : Int) / W - t ∧ (k : Int) % W - l < 58 * s ∧ (k : Int) / W - t < R * s then shadeOf L (p (58 * (((k : Int) / W - t) / s) + ((k : Int) % W - l) / s).toNat) else 255

theorem divmod_at {W a b : Int} (h0 : 0 ≤ b) (h1 : b < W) : (a * W + b) / W = a ∧ (a * W + b) % W = b := by
  constructor
  · rw [Int.add_comm, Int.add_mul_ediv_right _ _ (by omega), Int.ediv_eq_zero_of_lt h0 h1]; omega
  · rw [Int.add_comm, Int.add_mul_emod_self_right, Int.emod_eq_of_lt h0 h1]

theorem dpx_in {L R s l t W : Int} {p : Nat → Int} {x y : Int} (hl : 0 ≤ l) (hW : 58 * s + l ≤ W) (hx : 0 ≤ x ∧ x < 58 * s) (hy : 0 ≤ y ∧ y < R * s) {k : Nat} (hk : (k : Int) = (y + t) * W + (x + l)) :
    dpx L R s l t W p k = shadeOf L (p (58 * (y / s) + x / s).toNat) := by
  obtain ⟨d, m⟩ := divmod_at (W := W) (a := y + t) (b := x + l) (by omega) (by omega)
  unfold dpx
  rw [hk, d, m, show x + l - l = x from by omega, show y + t - t = y from by omega, if_pos ⟨hx.1, hy.1, hx.2, hy.2⟩]
theorem dpx_out {L R s l t W : Int} {p : Nat → Int} {k : Nat} (h : (k : Int) % W < l ∨ 58 * s + l ≤ (k : Int) % W ∨ (k : Int) / W < t ∨ R * s + t ≤ (k : Int) / W) : dpx L R s l t W p k = 255 := by
  unfold dpx; rw [if_neg (by omega)]
/-- Behind the row y of the page, up to the first pixel of the next row, all is white. -/
theorem dpx_gap {L R s l t W : Int} {p : Nat → Int} {y : Int} (hs : 0 ≤ s) (hW : W = 58 * s + 2 * l) (hW0 : 0 < W) {k : Nat} (h1 : (y + t) * W + (58 * s + l) ≤ k) (h2 : (k : Int) < (y + 1 + t) * W + l) : dpx L R s l t W p k = 255 := by
  have e : (y + 1 + t) * W = (y + t) * W + W := by rw [show y + 1 + t = (y + t) + 1 from by omega, Int.add_mul, Int.one_mul]
  apply dpx_out
  by_cases h : (k : Int) < (y + t) * W + W
  · obtain ⟨d, m⟩ := divmod_at (W := W) (a := y + t) (b := (k : Int) - (y + t) * W) (by omega) (by omega)
    rw [show (y + t) * W + ((k : Int) - (y + t) * W) = k from by omega] at d m
    right; left; rw [m]; omega
  · obtain ⟨d, m⟩ := divmod_at (W := W) (a := y + t + 1) (b := (k : Int) - (y + t + 1) * W) (by rw [Int.add_mul, Int.one_mul]; omega) (by rw [Int.add_mul, Int.one_mul]; omega)
    rw [show (y + t + 1) * W + ((k : Int) - (y + t + 1) * W) = k from by omega] at d m
    left; rw [m, Int.add_mul, Int.one_mul]; omega
/-- Ahead of the first row. -/
theorem dpx_head {L R s l t W : Int} {p : Nat → Int} (hW : l ≤ W) (hW0 : 0 < W) {k : Nat} (h2 : (k : Int) < (0 + t) * W + l) : dpx L R s l t W p k = 255 := by
  apply dpx_out
  rw [Int.zero_add] at h2
  by_cases h : (k : Int) < t * W
  · right; right; left
    exact (Int.ediv_lt_iff_lt_mul hW0).2 h
  · obtain ⟨d, m⟩ := divmod_at (W := W) (a := t) (b := (k : Int) - t * W) (by omega) (by omega)
    rw [show t * W + ((k : Int) - t * W) = k from by omega] at d m
    left; rw [m]; omega
/-- Behind the last row. -/
theorem dpx_tail {L R s l t W : Int} {p : Nat → Int} (hW0 : 0 < W) {k : Nat} (h2 : (R * s + t) * W ≤ k) : dpx L R s l t W p k = 255 := by
  apply dpx_out
  right; right; right
  exact (Int.le_ediv_iff_mul_le hW0).2 h2
theorem upTo_gap {a b : Nat} {f g : Nat → Value} (hab : a ≤ b) (h : ∀ k, a ≤ k → k < b → f k = g k) : upTo a f g = upTo b f g := by
  funext j
  unfold upTo
  by_cases h1 : j < a
  · rw [if_pos h1, if_pos (by omega)]
  · rw [if_neg h1]
    by_cases h2 : j < b
    · rw [if_pos h2, h j (by omega) h2]
    · rw [if_neg h2]

/-- The fault of a drawing. -/
def drawF (gf : Int × Int) (s l t : Int) : Int × Int :=
  if gf.1 ≠ 0 then gf else if s < 3 ∨ 6 < s then (4, -2) else if l < 2 ∨ 40 < l then (4, -3) else if t < 2 ∨ 40 < t then (4, -4) else (0, 0)

theorem shade_tab {L v : Int} (hL : L = 2 ∨ L = 4) (hv : 0 ≤ v ∧ v < L) : 0 ≤ shadeOf L v ∧ shadeOf L v ≤ 255 ∧ 0 ≤ L - 1 - v ∧ 255 * (L - 1 - v) ≤ 765 := by
  unfold shadeOf
  rcases hL with rfl | rfl
  · have : v = 0 ∨ v = 1 := by omega
    rcases this with rfl | rfl <;> decide
  · have : v = 0 ∨ v = 1 ∨ v = 2 ∨ v = 3 := by omega
    rcases this with rfl | rfl | rfl | rfl <;> decide
theorem hiC_none {p : Nat → Int} {L : Int} {n : Nat} (h : ¬ 0 ≤ hiC p L n) : ∀ i, i < n → p i < L := by
  intro i hi
  rcases ff_cases (fun i => decide (L ≤ p i)) n with ⟨_, h2⟩ | ⟨k, _, _, _, e⟩
  · have := h2 i hi
    simpa using this
  · exact absurd (by unfold hiC; rw [e]; omega) h
/-- A page that is valid. -/
structure GridOk (L R C : Int) (n : Nat) (p : Nat → Int) : Prop where
  lv : L = 2 ∨ L = 4
  rows : R = rowsOf L
  cols : C = 58
  len : (n : Int) = R * 58
  low : ∀ i, i < n → p i < L
theorem gridF_ok {L R C : Int} {n : Nat} {p : Nat → Int} (h : GridOk L R C n p) : gridF L R C n p = (0, 0) := by
  rw [gridF_5 h.lv h.rows h.cols h.len, cellsF_miss]
  intro h0
  rcases ff_cases (fun i => decide (L ≤ p i)) n with ⟨e, _⟩ | ⟨k, hk, hq, _, _⟩
  · unfold hiC at h0; rw [e] at h0; omega
  · have := h.low k hk
    simp at hq
    omega
theorem gridF_cases (L R C : Int) (n : Nat) (p : Nat → Int) : GridOk L R C n p ∨ (gridF L R C n p).1 ≠ 0 := by
  by_cases hL : L = 2 ∨ L = 4
  · by_cases hR : R = rowsOf L
    · by_cases hC : C = 58
      · by_cases hN : (n : Int) = R * 58
        · by_cases hh : 0 ≤ hiC p L n
          · right; rw [gridF_5 hL hR hC hN, cellsF_hit hh]; simp
          · exact .inl ⟨hL, hR, hC, hN, hiC_none hh⟩
        · right; rw [gridF_4 hL hR hC hN]; decide
      · right; rw [gridF_3 hL hR hC]; decide
    · right; rw [gridF_2 hL hR]; decide
  · right; rw [gridF_1 (by omega)]; decide

theorem draw_bd {s l t R : Int} (hs : 3 ≤ s ∧ s ≤ 6) (hl : 2 ≤ l ∧ l ≤ 40) (ht : 2 ≤ t ∧ t ≤ 40) (hR : 53 ≤ R ∧ R ≤ 85) :
    178 ≤ 58 * s + 2 * l ∧ 58 * s + 2 * l ≤ 428 ∧ 159 ≤ R * s ∧ R * s ≤ 510 ∧ 0 ≤ (58 * s + 2 * l) * (R * s + 2 * t) ∧ (58 * s + 2 * l) * (R * s + 2 * t) ≤ 252520 := by
  have a := Int.mul_le_mul hR.2 hs.2 (by omega) (by omega)
  have b := Int.mul_le_mul hR.1 hs.1 (by omega) (by omega)
  have c := Int.mul_le_mul (show 58 * s + 2 * l ≤ 428 by omega) (show R * s + 2 * t ≤ 590 by omega) (by omega) (by omega)
  have d := Int.mul_nonneg (show 0 ≤ 58 * s + 2 * l by omega) (show 0 ≤ R * s + 2 * t by omega)
  omega

end Go.Proofs.Ytpdjiokmafoppaa
