/- distort.Smear: its pixels are those of smF. Conditions: the image is valid, its pixels read as bytes. -/
import Derived.Test.YtpdjiokmafoppaaLoopI
namespace Go.Proofs.Ytpdjiokmafoppaa
open Go.RowKit

set_option maxHeartbeats 1000000 in
theorem smAt_any (b : Nat) (A : Option Addr) (n c : Nat) (W H x y : Int) (p : Nat → Int) (w : World) (hi : ImgOk W H n) (hb : Byt p) (hr : RdB w A n p) (hc : ∀ o, w.cell? ⟨b, o, none⟩ = (#[.int .i64 W, .int .i64 H, .slice A n c] : Array Value)[o]?) :
    Calls Try.prog 112 #[.int .i64 x, .int .i64 y, .pointer (some ⟨b, 0, none⟩)] w fun e w' => e = .returned (.int .i64 (px W H p x y)) ∧ w = w' := by
  obtain ⟨w1, w2, h1, h2, len⟩ := hi
  have c0 := hc 0
  have c1 := hc 1
  have c2 := hc 2
  simp at c0 c1 c2
  clear hc
  by_cases hx : 0 ≤ x
  · by_cases hx2 : x < W
    · by_cases hy : 0 ≤ y
      · by_cases hy2 : y < H
        · have HF := Lib.hid (px_in (p := p) ⟨hx, hx2⟩ ⟨hy, hy2⟩)
          obtain ⟨b1, b2, b3, b4⟩ := idx_bd ⟨w1, w2⟩ ⟨h1, h2⟩ ⟨hx, hx2⟩ ⟨hy, hy2⟩
          have hlt : y * W + x < (n : Int) := by omega
          obtain ⟨b, off, rfl, hcl⟩ := hr (by omega)
          have hck := hcl (y * W + x).toNat (by omega)
          have hbb := hb (y * W + x).toNat
          clear hcl b4 len hb
          go_enter Try.func112, Try.ntmps112
          go_wp2
          go_ret
          exact ⟨by rw [HF.out]; rfl, rfl⟩
        · have HF : Hid (px W H p x y = 255) := Lib.hid (px_out (by omega))
          clear len hr
          go_enter Try.func112, Try.ntmps112
          go_wp2
          go_ret
          exact ⟨by rw [HF.out]; rfl, rfl⟩
      · have HF : Hid (px W H p x y = 255) := Lib.hid (px_out (by omega))
        clear len hr
        go_enter Try.func112, Try.ntmps112
        go_wp2
        go_ret
        exact ⟨by rw [HF.out]; rfl, rfl⟩
    · have HF : Hid (px W H p x y = 255) := Lib.hid (px_out (by omega))
      clear len hr
      go_enter Try.func112, Try.ntmps112
      go_wp2
      go_ret
      exact ⟨by rw [HF.out]; rfl, rfl⟩
  · have HF : Hid (px W H p x y = 255) := Lib.hid (px_out (by omega))
    clear len hr
    go_enter Try.func112, Try.ntmps112
    go_wp2
    go_ret
    exact ⟨by rw [HF.out]; rfl, rfl⟩

/-- The sum of the first k of the nine pixels about pixel n. -/
def smSum (W H : Int) (p : Nat → Int) (n : Nat) : Nat → Int
  | 0 => 0
  | k + 1 => smSum W H p n k + px W H p ((n : Int) % W + (k : Int) % 3 - 1) ((n : Int) / W + (k : Int) / 3 - 1)
theorem smSum_bd {W H : Int} {p : Nat → Int} (hp : Byt p) (n : Nat) : ∀ k : Nat, 0 ≤ smSum W H p n k ∧ smSum W H p n k ≤ 255 * (k : Int)
  | 0 => by simp [smSum]
  | k + 1 => by
    have a := smSum_bd (W := W) (H := H) hp n k
    have b := px_byt (W := W) (H := H) hp ((n : Int) % W + (k : Int) % 3 - 1) ((n : Int) / W + (k : Int) / 3 - 1)
    simp only [smSum]
    omega
/-- A pixel of the smeared image. -/
def smF (W H : Int) (p : Nat → Int) (n : Nat) : Int := smSum W H p n 9 / 9
theorem smF_byt {W H : Int} {p : Nat → Int} (hp : Byt p) : Byt (smF W H p) := fun n => by
  have := smSum_bd (W := W) (H := H) hp n 9
  unfold smF; omega

set_option maxHeartbeats 1000000 in
theorem Smear_bad (A : Option Addr) (n c : Nat) (W H : Int) (w : World) (hb : (imgF W H n).1 ≠ 0) :
    Calls Try.prog 52 #[iv W H A n c] w fun e w' => e = .returned (.tuple #[iv 0 0 none 0 0, fv (imgF W H n).1 (imgF W H n).2]) ∧ Below w.heap.size w w' := by
  obtain ⟨c0, i0, hci⟩ : ∃ c0 i0, imgF W H n = (c0, i0) := ⟨_, _, rfl⟩
  have hb0 : (c0 == 0) = false := by rw [hci] at hb; simpa using hb
  have HCI := Lib.hid hci
  clear hb hci
  rw [HCI.out]
  go_enter Try.func52, Try.ntmps52
  go_wp2_with fail
  refine (rValidate_any A n c W H _).mono ?_
  rw [HCI.out]
  rintro e w1 ⟨rfl, hbw1⟩
  obtain ⟨hcw1, hfw1⟩ := bcell hbw1
  have hzw1 := hbw1.size
  try simp at hzw1
  have kw1 : Below w.heap.size w w1 := Below.trans (by repeat (first | (with_reducible assumption) | (with_reducible exact Below.refl _ _) | (with_reducible refine Below.drew ?_) | (with_reducible refine below_drewN ?_ _) | ((with_reducible refine Below.alloc ?_ ?_ _); rotate_left; (focus (first | exact Nat.le_refl _ | omega | (simp; done) | (simp; omega) | (simp at *; omega)))) | ((with_reducible refine Below.setCell ?_ ?_ _); rotate_left; (focus (first | exact Nat.le_refl _ | omega | (simp; done) | (simp; omega) | (simp at *; omega)))))) (hbw1.mono (by (focus (first | exact Nat.le_refl _ | omega | (simp; done) | (simp; omega) | (simp at *; omega)))))
  have kzw1 := kw1.size
  have lw1w0 : w.heap.size < w1.heap.size := by omega
  have lw1w1 : w.heap.size + 1 < w1.heap.size := by omega
  have lw1w2 : w.heap.size + 2 < w1.heap.size := by omega
  go_wp2
  go_region
  go_wp2
  refine bodyPost_ret (v := (.tuple #[iv 0 0 none 0 0, fv c0 i0])) (by simp [results, Try.results52, go_sem, *]) rfl ?_
  exact ⟨rfl, (by repeat (first | (with_reducible assumption) | (with_reducible exact Below.refl _ _) | (with_reducible refine Below.drew ?_) | (with_reducible refine below_drewN ?_ _) | ((with_reducible refine Below.alloc ?_ ?_ _); rotate_left; (focus (first | exact Nat.le_refl _ | omega | (simp; done) | (simp; omega) | (simp at *; omega)))) | ((with_reducible refine Below.setCell ?_ ?_ _); rotate_left; (focus (first | exact Nat.le_refl _ | omega | (simp; done) | (simp; omega) | (simp at *; omega))))))⟩

set_option maxHeartbeats 2000000 in
set_option maxRecDepth 100000 in
theorem Smear_ok (A : Option Addr) (n c : Nat) (W H : Int) (p : Nat → Int) (w : World) (hi : ImgOk W H n) (hp : Byt p) (hr : RdB w A n p) :
    Calls Try.prog 52 #[iv W H A n c] w fun e w' => ∃ g, e = .returned (.tuple #[iv W H (some ⟨g, 0, none⟩) n n, fv 0 0]) ∧ w.heap.size ≤ g ∧ w'.rowIs g 5 n (fun k => .int .u8 (smF W H p k)) ∧ Below w.heap.size w w' := by
  have HR := rd_later hr
  have HI := Lib.hid hi
  have HF := Lib.hid (imgF_ok hi)
  have hnb : n ≤ 409600 := by have := mul_bd ⟨hi.w1, hi.w2⟩ ⟨hi.h1, hi.h2⟩; have := hi.len; omega
  have hW := hi.w1
  have hW2 := hi.w2
  have hH2 := hi.h2
  clear hr hi
  go_enter Try.func52, Try.ntmps52
  go_wp2_with fail
  refine (rValidate_any A n c W H _).mono ?_
  rw [HF.out]
  rintro e w1 ⟨rfl, hbw1⟩
  have hzw1 := hbw1.size
  try simp at hzw1
  have kw1 : Below w.heap.size w w1 := Below.trans (by repeat (first | (with_reducible assumption) | (with_reducible exact Below.refl _ _) | (with_reducible refine Below.drew ?_) | (with_reducible refine below_drewN ?_ _) | ((with_reducible refine Below.alloc ?_ ?_ _); rotate_left; (focus (first | exact Nat.le_refl _ | omega | (simp; done) | (simp; omega) | (simp at *; omega)))) | ((with_reducible refine Below.setCell ?_ ?_ _); rotate_left; (focus (first | exact Nat.le_refl _ | omega | (simp; done) | (simp; omega) | (simp at *; omega)))))) (hbw1.mono (by (focus (first | exact Nat.le_refl _ | omega | (simp; done) | (simp; omega) | (simp at *; omega)))))
  have kzw1 := kw1.size
  have Bin : Blk w1 (w.heap.size) 26 #[.int .i64 W, .int .i64 H, .slice A n c] := Blk.below (by repeat (first | (with_reducible assumption) | (with_reducible exact Blk.new _ _ _) | ((with_reducible refine Blk.new_at _ _ _ ?_); (focus (first | (simp; done) | omega))) | (with_reducible refine Blk.drew ?_) | (with_reducible refine Blk.drewN ?_ _) | (with_reducible refine Blk.alloc ?_ _) | ((with_reducible refine Blk.far ?_ ?_ _); rotate_left; (focus (first | (simp; done) | (simp; omega) | omega))))) hbw1 (by (focus (first | omega | (simp; done) | (simp; omega) | (simp at *; omega))))
  try clear ci fi
  try clear Bi
  have Bi := Bin
  clear Bin
  have ci := Bi.cell
  have fi := Bi.frozen
  have liw1 := Bi.lt
  have Ban : Blk w1 (w.heap.size + 1) 26 #[.int .i64 0, .int .i64 0, .slice none 0 0] := Blk.below (by repeat (first | (with_reducible assumption) | (with_reducible exact Blk.new _ _ _) | ((with_reducible refine Blk.new_at _ _ _ ?_); (focus (first | (simp; done) | omega))) | (with_reducible refine Blk.drew ?_) | (with_reducible refine Blk.drewN ?_ _) | (with_reducible refine Blk.alloc ?_ _) | ((with_reducible refine Blk.far ?_ ?_ _); rotate_left; (focus (first | (simp; done) | (simp; omega) | omega))))) hbw1 (by (focus (first | omega | (simp; done) | (simp; omega) | (simp at *; omega))))
  try clear ca fa
  try clear Ba
  have Ba := Ban
  clear Ban
  have ca := Ba.cell
  have fa := Ba.frozen
  have law1 := Ba.lt
  have Bbn : Blk w1 (w.heap.size + 1 + 1) 28 #[.int .i64 0, .int .i64 0] := Blk.below (by repeat (first | (with_reducible assumption) | (with_reducible exact Blk.new _ _ _) | ((with_reducible refine Blk.new_at _ _ _ ?_); (focus (first | (simp; done) | omega))) | (with_reducible refine Blk.drew ?_) | (with_reducible refine Blk.drewN ?_ _) | (with_reducible refine Blk.alloc ?_ _) | ((with_reducible refine Blk.far ?_ ?_ _); rotate_left; (focus (first | (simp; done) | (simp; omega) | omega))))) hbw1 (by (focus (first | omega | (simp; done) | (simp; omega) | (simp at *; omega))))
  try clear cb fb
  try clear Bb
  have Bb := Bbn
  clear Bbn
  have cb := Bb.cell
  have fb := Bb.frozen
  have lbw1 := Bb.lt
  clear hbw1
  go_wp2_with fail
  refine (copyOf_any A n c W H p (by omega) _ (HR.out _ (by repeat (first | (with_reducible assumption) | (with_reducible exact Below.refl _ _) | (with_reducible refine Below.drew ?_) | (with_reducible refine below_drewN ?_ _) | ((with_reducible refine Below.alloc ?_ ?_ _); rotate_left; (focus (first | exact Nat.le_refl _ | omega | (simp; done) | (simp; omega) | (simp at *; omega)))) | ((with_reducible refine Below.setCell ?_ ?_ _); rotate_left; (focus (first | exact Nat.le_refl _ | omega | (simp; done) | (simp; omega) | (simp at *; omega)))))))).mono ?_
  rintro e w2 ⟨rfl, hrow, hbw2⟩
  have Hrow := Lib.hid hrow
  have hgl := hrow.lt
  clear hrow
  have hzw2 := hbw2.size
  try simp at hzw2
  have kw2 : Below w.heap.size w w2 := Below.trans (by repeat (first | (with_reducible assumption) | (with_reducible exact Below.refl _ _) | (with_reducible refine Below.drew ?_) | (with_reducible refine below_drewN ?_ _) | ((with_reducible refine Below.alloc ?_ ?_ _); rotate_left; (focus (first | exact Nat.le_refl _ | omega | (simp; done) | (simp; omega) | (simp at *; omega)))) | ((with_reducible refine Below.setCell ?_ ?_ _); rotate_left; (focus (first | exact Nat.le_refl _ | omega | (simp; done) | (simp; omega) | (simp at *; omega)))))) (hbw2.mono (by (focus (first | exact Nat.le_refl _ | omega | (simp; done) | (simp; omega) | (simp at *; omega)))))
  have kzw2 := kw2.size
  have Bin : Blk w2 (w.heap.size) 26 #[.int .i64 W, .int .i64 H, .slice A n c] := Blk.below (by repeat (first | (with_reducible assumption) | (with_reducible exact Blk.new _ _ _) | ((with_reducible refine Blk.new_at _ _ _ ?_); (focus (first | (simp; done) | omega))) | (with_reducible refine Blk.drew ?_) | (with_reducible refine Blk.drewN ?_ _) | (with_reducible refine Blk.alloc ?_ _) | ((with_reducible refine Blk.far ?_ ?_ _); rotate_left; (focus (first | (simp; done) | (simp; omega) | omega))))) hbw2 (by (focus (first | omega | (simp; done) | (simp; omega) | (simp at *; omega))))
  try clear ci fi
  try clear Bi
  have Bi := Bin
  clear Bin
  have ci := Bi.cell
  have fi := Bi.frozen
  have liw2 := Bi.lt
  have Ban : Blk w2 (w.heap.size + 1) 26 #[.int .i64 0, .int .i64 0, .slice none 0 0] := Blk.below (by repeat (first | (with_reducible assumption) | (with_reducible exact Blk.new _ _ _) | ((with_reducible refine Blk.new_at _ _ _ ?_); (focus (first | (simp; done) | omega))) | (with_reducible refine Blk.drew ?_) | (with_reducible refine Blk.drewN ?_ _) | (with_reducible refine Blk.alloc ?_ _) | ((with_reducible refine Blk.far ?_ ?_ _); rotate_left; (focus (first | (simp; done) | (simp; omega) | omega))))) hbw2 (by (focus (first | omega | (simp; done) | (simp; omega) | (simp at *; omega))))
  try clear ca fa
  try clear Ba
  have Ba := Ban
  clear Ban
  have ca := Ba.cell
  have fa := Ba.frozen
  have law2 := Ba.lt
  have Bbn : Blk w2 (w.heap.size + 1 + 1) 28 #[.int .i64 0, .int .i64 0] := Blk.below (by repeat (first | (with_reducible assumption) | (with_reducible exact Blk.new _ _ _) | ((with_reducible refine Blk.new_at _ _ _ ?_); (focus (first | (simp; done) | omega))) | (with_reducible refine Blk.drew ?_) | (with_reducible refine Blk.drewN ?_ _) | (with_reducible refine Blk.alloc ?_ _) | ((with_reducible refine Blk.far ?_ ?_ _); rotate_left; (focus (first | (simp; done) | (simp; omega) | omega))))) hbw2 (by (focus (first | omega | (simp; done) | (simp; omega) | (simp at *; omega))))
  try clear cb fb
  try clear Bb
  have Bb := Bbn
  clear Bbn
  have cb := Bb.cell
  have fb := Bb.frozen
  have lbw2 := Bb.lt
  clear ci fi ca fa cb fb
  have H0 : LI w (w1.heap.size + 1 + 2) n (upTo 0 (fun k => .int .u8 (smF W H p k)) (fun k => .int .u8 (p k))) [(w.heap.size, 26, #[.int .i64 W, .int .i64 H, .slice A n c]), (w.heap.size + 1, 26, #[.int .i64 0, .int .i64 0, .slice none 0 0]), (w.heap.size + 1 + 1, 28, #[.int .i64 0, .int .i64 0]),
      (w2.heap.size, 26, #[.int .i64 W, .int .i64 H, .slice (some ⟨w1.heap.size + 1 + 2, 0, none⟩) n n])] (w2.alloc (.cells #[.int .i64 W, .int .i64 H, .slice (some ⟨w1.heap.size + 1 + 2, 0, none⟩) n n] 26)) := by
    simp at hgl
    refine ⟨?_, ?_, by omega, (by repeat (first | (with_reducible assumption) | (with_reducible exact Below.refl _ _) | (with_reducible refine Below.drew ?_) | (with_reducible refine below_drewN ?_ _) | ((with_reducible refine Below.alloc ?_ ?_ _); rotate_left; (focus (first | exact Nat.le_refl _ | omega | (simp; done) | (simp; omega) | (simp at *; omega)))) | ((with_reducible refine Below.setCell ?_ ?_ _); rotate_left; (focus (first | exact Nat.le_refl _ | omega | (simp; done) | (simp; omega) | (simp at *; omega))))))⟩
    · rw [upTo_zero]; exact (by simpa using Hrow.out : w2.rowIs (w1.heap.size + 1 + 2) 5 n _).alloc _
    · intro x hx
      simp only [List.mem_cons, List.not_mem_nil, or_false] at hx
      rcases hx with rfl | rfl | rfl | rfl
      · exact ⟨Bi.alloc _, by simp; omega⟩
      · exact ⟨Ba.alloc _, by simp; omega⟩
      · exact ⟨Bb.alloc _, by simp; omega⟩
      · exact ⟨Blk.new _ _ _, by simp; omega⟩
  clear Bi Ba Bb Hrow hbw2
  go_wp2
  go_loopg [23] n (fun gk s23 wr => ∃ k : Nat, k ≤ n ∧ gk = n - k ∧ s23 = .int .i64 k ∧ LI w (w1.heap.size + 1 + 2) n (upTo k (fun k => .int .u8 (smF W H p k)) (fun k => .int .u8 (p k))) [(w.heap.size, 26, #[.int .i64 W, .int .i64 H, .slice A n c]), (w.heap.size + 1, 26, #[.int .i64 0, .int .i64 0, .slice none 0 0]), (w.heap.size + 1 + 1, 28, #[.int .i64 0, .int .i64 0]),
      (w2.heap.size, 26, #[.int .i64 W, .int .i64 H, .slice (some ⟨w1.heap.size + 1 + 2, 0, none⟩) n n])] wr)
  case atStart => exact ⟨0, by omega, rfl, rfl, H0⟩
  case round =>
    obtain ⟨k, hk, rfl, rfl, hI⟩ := hrel
    clear H0
    by_cases hlt : k < n
    · obtain ⟨⟨x1, x2⟩, ⟨y1, y2⟩, _, kb, _⟩ := pix_bd HI.out hlt
      have y3 := hH2
      go_wp2
      go_loopg [8, 26] 9 (fun gk s8 s26 wi => ∃ j : Nat, j ≤ 9 ∧ gk = 9 - j ∧ s8 = .int .i64 (smSum W H p k j) ∧ s26 = .int .i64 j ∧ LI w (w1.heap.size + 1 + 2) n (upTo k (fun k => .int .u8 (smF W H p k)) (fun k => .int .u8 (p k))) [(w.heap.size, 26, #[.int .i64 W, .int .i64 H, .slice A n c]), (w.heap.size + 1, 26, #[.int .i64 0, .int .i64 0, .slice none 0 0]), (w.heap.size + 1 + 1, 28, #[.int .i64 0, .int .i64 0]),
      (w2.heap.size, 26, #[.int .i64 W, .int .i64 H, .slice (some ⟨w1.heap.size + 1 + 2, 0, none⟩) n n])] wi)
      case atStart => exact ⟨0, by omega, rfl, rfl, rfl, hI⟩
      case round =>
        clear hI
        obtain ⟨j, hj, rfl, rfl, rfl, hI⟩ := hrel
        have HS := Lib.hid hI
        by_cases hj9 : j < 9
        · have Bi := hI.b (b := w.heap.size) (t := 26) (cs := #[.int .i64 W, .int .i64 H, .slice A n c]) (by simp)
          have ci := Bi.cell
          have CI := Lib.hid ci
          have sb := smSum_bd (W := W) (H := H) hp k j
          have kb1 := px_byt (W := W) (H := H) hp ((k : Int) % W + (j : Int) % 3 - 1) ((k : Int) / W + (j : Int) / 3 - 1)
          have SE : Hid (smSum W H p k (j + 1) = smSum W H p k j + px W H p ((k : Int) % W + (j : Int) % 3 - 1) ((k : Int) / W + (j : Int) / 3 - 1)) := Lib.hid rfl
          have HRr := Lib.hid (HR.out _ hI.bel)
          have u1 : (k : Int).tmod W = (k : Int) % W := Int.tmod_eq_emod_of_nonneg (by omega)
          have u2 : (k : Int).tdiv W = (k : Int) / W := Int.tdiv_eq_ediv_of_nonneg (by omega)
          have u3 : ¬ W = 0 := by omega
          have u4 : IntKind.i64.wrap ((k : Int) % W) = (k : Int) % W := IntWalk.i64_in _ (by omega)
          have u5 : IntKind.i64.wrap ((k : Int) / W) = (k : Int) / W := IntWalk.i64_in _ (by omega)
          have v1 : (j : Int).tmod 3 = (j : Int) % 3 := Int.tmod_eq_emod_of_nonneg (by omega)
          have v2 : (j : Int).tdiv 3 = (j : Int) / 3 := Int.tdiv_eq_ediv_of_nonneg (by omega)
          have v4 : IntKind.i64.wrap ((j : Int) % 3) = (j : Int) % 3 := IntWalk.i64_in _ (by omega)
          have v5 : IntKind.i64.wrap ((j : Int) / 3) = (j : Int) / 3 := IntWalk.i64_in _ (by omega)
          have a1 : IntKind.i64.wrap ((k : Int) % W + (j : Int) % 3) = (k : Int) % W + (j : Int) % 3 := IntWalk.i64_in _ (by omega)
          have a2 : IntKind.i64.wrap ((k : Int) / W + (j : Int) / 3) = (k : Int) / W + (j : Int) / 3 := IntWalk.i64_in _ (by omega)
          have a3 : IntKind.i64.wrap ((k : Int) % W + (j : Int) % 3 - 1) = (k : Int) % W + (j : Int) % 3 - 1 := IntWalk.i64_in _ (by omega)
          have a4 : IntKind.i64.wrap ((k : Int) / W + (j : Int) / 3 - 1) = (k : Int) / W + (j : Int) / 3 - 1 := IntWalk.i64_in _ (by omega)
          have a5 : IntKind.i64.wrap (smSum W H p k j + px W H p ((k : Int) % W + (j : Int) % 3 - 1) ((k : Int) / W + (j : Int) / 3 - 1)) = smSum W H p k j + px W H p ((k : Int) % W + (j : Int) % 3 - 1) ((k : Int) / W + (j : Int) / 3 - 1) := IntWalk.i64_in _ (by omega)
          clear hI Bi
          go_wp2
          go_quiet ((go_at_call 112; exact quiet_left (smAt_any w.heap.size A n c W H _ _ p _ HI.out hp HRr.out CI.out)))
          go_wp2
          go_roundg (9 - (j + 1))
          case measure => omega
          case rel => exact ⟨j + 1, by omega, rfl, by rw [SE.out], by go_num, HS.out.mono (by repeat (first | (with_reducible assumption) | (with_reducible exact Below.refl _ _) | (with_reducible refine Below.drew ?_) | (with_reducible refine below_drewN ?_ _) | ((with_reducible refine Below.alloc ?_ ?_ _); rotate_left; (focus (first | exact Nat.le_refl _ | omega | (simp; done) | (simp; omega) | (simp at *; omega)))) | ((with_reducible refine Below.setCell ?_ ?_ _); rotate_left; (focus (first | exact Nat.le_refl _ | omega | (simp; done) | (simp; omega) | (simp at *; omega))))))⟩
        · obtain rfl : j = 9 := by omega
          have Bo := hI.b (b := w2.heap.size) (t := 26) (cs := #[.int .i64 W, .int .i64 H, .slice (some ⟨w1.heap.size + 1 + 2, 0, none⟩) n n]) (by simp)
          have co := Bo.cell
          have st := hI.row.cell hlt
          have fz := hI.row.frozen k
          have sb := smSum_bd (W := W) (H := H) hp k 9
          have d1 : (smSum W H p k 9).tdiv 9 = smF W H p k := Int.tdiv_eq_ediv_of_nonneg (by omega)
          have bf := smF_byt (W := W) (H := H) hp k
          have d2 : IntKind.u8.wrap (smF W H p k) = smF W H p k := IntWalk.u8_in _ (by omega)
          have d3 : IntKind.i64.wrap (smF W H p k) = smF W H p k := IntWalk.i64_in _ (by omega)
          clear hI Bo
          go_wp2
          go_roundg (n - (k + 1))
          case measure => omega
          case rel => exact ⟨k + 1, by omega, rfl, by go_num, HS.out.step (by repeat (first | (with_reducible assumption) | (with_reducible exact Below.refl _ _) | (with_reducible refine Below.drew ?_) | (with_reducible refine below_drewN ?_ _) | ((with_reducible refine Below.alloc ?_ ?_ _); rotate_left; (focus (first | exact Nat.le_refl _ | omega | (simp; done) | (simp; omega) | (simp at *; omega)))) | ((with_reducible refine Below.setCell ?_ ?_ _); rotate_left; (focus (first | exact Nat.le_refl _ | omega | (simp; done) | (simp; omega) | (simp at *; omega)))))) rfl⟩
    · obtain rfl : k = n := by omega
      have Bo := hI.b (b := w2.heap.size) (t := 26) (cs := #[.int .i64 W, .int .i64 H, .slice (some ⟨w1.heap.size + 1 + 2, 0, none⟩) k k]) (by simp)
      have Ba := hI.b (b := w.heap.size + 1) (t := 26) (cs := #[.int .i64 0, .int .i64 0, .slice none 0 0]) (by simp)
      have Bb := hI.b (b := w.heap.size + 1 + 1) (t := 28) (cs := #[.int .i64 0, .int .i64 0]) (by simp)
      have co := Bo.cell
      have ca := Ba.cell
      have fa := Ba.frozen
      have cb := Bb.cell
      have fb := Bb.frozen
      have Hrow := Lib.hid (hI.row.congr upTo_all)
      have hbel := hI.bel
      clear hI
      go_wp2
      refine bodyPost_ret (v := (.tuple #[iv W H (some ⟨w1.heap.size + 1 + 2, 0, none⟩) k k, fv 0 0])) (by simp [results, Try.results52, go_sem, *]) rfl ?_
      refine ⟨_, rfl, by omega, ?_, (by repeat (first | (with_reducible assumption) | (with_reducible exact Below.refl _ _) | (with_reducible refine Below.drew ?_) | (with_reducible refine below_drewN ?_ _) | ((with_reducible refine Below.alloc ?_ ?_ _); rotate_left; (focus (first | exact Nat.le_refl _ | omega | (simp; done) | (simp; omega) | (simp at *; omega)))) | ((with_reducible refine Below.setCell ?_ ?_ _); rotate_left; (focus (first | exact Nat.le_refl _ | omega | (simp; done) | (simp; omega) | (simp at *; omega))))))⟩
      have := Hrow.out
      exact (by repeat (first | (with_reducible assumption) | (with_reducible refine World.rowIs.drew ?_) | (with_reducible refine rowIs_drewN ?_ _) | (with_reducible refine World.rowIs.alloc ?_ _) | ((with_reducible refine World.rowIs.setOther ?_ ?_ _); rotate_left; (focus (first | (simp; done) | (simp; omega) | omega)))))

end Go.Proofs.Ytpdjiokmafoppaa
