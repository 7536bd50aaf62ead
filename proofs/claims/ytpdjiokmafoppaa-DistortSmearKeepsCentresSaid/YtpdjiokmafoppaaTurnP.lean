/- The turns: plain facts about the pixels of a turned image. No program. -/
import Derived.Test.YtpdjiokmafoppaaMirror
namespace Go.Proofs.Ytpdjiokmafoppaa
open Go.RowKit

/-- Where a pixel of a turned image comes from. -/
def srcP (W H t x y : Int) : Int × Int :=
  if t = 1 then (y, H - 1 - x) else if t = 2 then (W - 1 - x, H - 1 - y) else if t = 3 then (W - 1 - y, x) else if t = 4 then (W - 1 - x, y)
  else if t = 5 then (W - 1 - y, H - 1 - x) else if t = 6 then (x, H - 1 - y) else if t = 7 then (y, x) else (x, y)
/-- The width and the height of a turned image. -/
def tuW (W H t : Int) : Int := if t % 2 = 1 then H else W
def tuH (W H t : Int) : Int := if t % 2 = 1 then W else H
/-- The pixels of a turned image. -/
def tuF (W H t : Int) (p : Nat → Int) : Nat → Int := mk2 (tuW W H t) (fun x y => pt W p (srcP W H t x y).1 (srcP W H t x y).2)
theorem tu_cases {t : Int} (h : 0 ≤ t ∧ t ≤ 7) : t = 0 ∨ t = 1 ∨ t = 2 ∨ t = 3 ∨ t = 4 ∨ t = 5 ∨ t = 6 ∨ t = 7 := by omega
theorem mk2_byt {W : Int} {F : Int → Int → Int} (h : ∀ x y, 0 ≤ F x y ∧ F x y ≤ 255) : Byt (mk2 W F) := fun _ => h _ _
theorem tuF_byt {W H t : Int} {p : Nat → Int} (h : Byt p) : Byt (tuF W H t p) := mk2_byt fun _ _ => h _
theorem tu_img {W H t : Int} {n : Nat} (h : ImgOk W H n) : ImgOk (tuW W H t) (tuH W H t) n := by
  unfold tuW tuH
  split
  · exact ⟨h.h1, h.h2, h.w1, h.w2, by rw [Int.mul_comm]; exact h.len⟩
  · exact h
/-- Two images of one width with the same places have the same pixels. -/
theorem ext2 {W H : Int} {n : Nat} {F G : Int → Int → Int} (hi : ImgOk W H n) (h : ∀ x y, (0 ≤ x ∧ x < W) → (0 ≤ y ∧ y < H) → F x y = G x y) : ∀ k, k < n → mk2 W F k = mk2 W G k := fun k hk => by
  obtain ⟨hx, hy, _⟩ := pix_bd hi hk
  exact h _ _ hx hy
/-- A turned image's place. -/
theorem pt_tu {W H t x y : Int} {p : Nat → Int} (hx : 0 ≤ x ∧ x < tuW W H t) (hy : 0 ≤ y ∧ y < tuH W H t) : pt (tuW W H t) (tuF W H t p) x y = pt W p (srcP W H t x y).1 (srcP W H t x y).2 := pt_mk2 hx hy.1
theorem pt_qu {W H x y : Int} {p : Nat → Int} (hx : 0 ≤ x ∧ x < H) (hy : 0 ≤ y) : pt H (quF W H p) x y = pt W p y (H - 1 - x) := pt_mk2 hx hy
theorem pt_mi {W x y : Int} {p : Nat → Int} (hx : 0 ≤ x ∧ x < W) (hy : 0 ≤ y) : pt W (miF W p) x y = pt W p (W - 1 - x) y := pt_mk2 hx hy

/-- The image behind k quarter turns, as distort.Turn makes it. -/
def itW (W H : Int) : Nat → Int × Int
  | 0 => (W, H)
  | k + 1 => ((itW W H k).2, (itW W H k).1)
def itF (W H : Int) (p : Nat → Int) : Nat → (Nat → Int)
  | 0 => p
  | k + 1 => quF (itW W H k).1 (itW W H k).2 (itF W H p k)
theorem it_img {W H : Int} {n : Nat} (h : ImgOk W H n) : ∀ k, ImgOk (itW W H k).1 (itW W H k).2 n
  | 0 => h
  | k + 1 => by
    have i := it_img h k
    exact ⟨i.h1, i.h2, i.w1, i.w2, by show (n : Int) = (itW W H k).2 * (itW W H k).1; rw [Int.mul_comm]; exact i.len⟩

/-- Turn t of an image, as distort.Turn makes it. -/
def prF (W H t : Int) (p : Nat → Int) : Nat → Int := itF W H (if 4 ≤ t then miF W p else p) (t % 4).toNat
theorem it_tu {W H t : Int} {n : Nat} {p : Nat → Int} (hi : ImgOk W H n) (ht : 0 ≤ t ∧ t ≤ 7) : itW W H (t % 4).toNat = (tuW W H t, tuH W H t) ∧ ∀ k, k < n → prF W H t p k = tuF W H t p k := by
  have w1 := hi.w1
  have h1 := hi.h1
  have hi' : ImgOk H W n := ⟨hi.h1, hi.h2, hi.w1, hi.w2, by rw [Int.mul_comm]; exact hi.len⟩
  rcases tu_cases ht with rfl | rfl | rfl | rfl | rfl | rfl | rfl | rfl
  · exact ⟨rfl, fun k hk => (mk2_pt p k).symm⟩
  · exact ⟨rfl, fun k hk => rfl⟩
  · refine ⟨rfl, fun k hk => ext2 (F := fun x y => pt H (quF W H p) y (W - 1 - x)) (G := fun x y => pt W p (W - 1 - x) (H - 1 - y)) hi (fun x y hx hy => ?_) k hk⟩
    exact pt_qu hy (by omega)
  · refine ⟨rfl, fun k hk => ext2 (F := fun x y => pt W (quF H W (quF W H p)) y (H - 1 - x)) (G := fun x y => pt W p (W - 1 - y) x) hi' (fun x y hx hy => ?_) k hk⟩
    show pt W (quF H W (quF W H p)) y (H - 1 - x) = _
    rw [pt_qu hy (by omega), pt_qu (by omega) (by omega), show H - 1 - (H - 1 - x) = x from by omega]
  · exact ⟨rfl, fun k hk => rfl⟩
  · refine ⟨rfl, fun k hk => ext2 (F := fun x y => pt W (miF W p) y (H - 1 - x)) (G := fun x y => pt W p (W - 1 - y) (H - 1 - x)) hi' (fun x y hx hy => ?_) k hk⟩
    exact pt_mi hy (by omega)
  · refine ⟨rfl, fun k hk => ext2 (F := fun x y => pt H (quF W H (miF W p)) y (W - 1 - x)) (G := fun x y => pt W p x (H - 1 - y)) hi (fun x y hx hy => ?_) k hk⟩
    show pt H (quF W H (miF W p)) y (W - 1 - x) = _
    rw [pt_qu hy (by omega), pt_mi (by omega) (by omega), show W - 1 - (W - 1 - x) = x from by omega]
  · refine ⟨rfl, fun k hk => ext2 (F := fun x y => pt W (quF H W (quF W H (miF W p))) y (H - 1 - x)) (G := fun x y => pt W p y x) hi' (fun x y hx hy => ?_) k hk⟩
    show pt W (quF H W (quF W H (miF W p))) y (H - 1 - x) = _
    rw [pt_qu hy (by omega), pt_qu (by omega) (by omega), pt_mi (by omega) (by omega), show H - 1 - (H - 1 - x) = x from by omega, show W - 1 - (W - 1 - y) = y from by omega]

end Go.Proofs.Ytpdjiokmafoppaa
