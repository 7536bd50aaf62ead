/- distort.quarter: its pixels. Conditions: the image is valid, its pixels read as bytes. -/
import Derived.Test.YtpdjiokmafoppaaLoopI
namespace Go.Proofs.Ytpdjiokmafoppaa
open Go.RowKit

/-- The pixel at a place. -/
def pt (W : Int) (p : Nat → Int) (x y : Int) : Int := p (y * W + x).toNat
/-- The row of pixels of a function of places. -/
def mk2 (W : Int) (F : Int → Int → Int) (n : Nat) : Int := F ((n : Int) % W) ((n : Int) / W)
theorem split_at {W x y : Int} (hx : 0 ≤ x ∧ x < W) (_hy : 0 ≤ y) : (y * W + x) % W = x ∧ (y * W + x) / W = y := by
  have h : 0 < W := by omega
  constructor
  · rw [Int.add_comm, Int.add_mul_emod_self_right]; exact Int.emod_eq_of_lt hx.1 hx.2
  · rw [Int.add_comm, Int.add_mul_ediv_right _ _ (by omega), Int.ediv_eq_zero_of_lt hx.1 hx.2, Int.zero_add]
theorem pt_mk2 {W x y : Int} {F : Int → Int → Int} (hx : 0 ≤ x ∧ x < W) (hy : 0 ≤ y) : pt W (mk2 W F) x y = F x y := by
  have h0 := Int.mul_nonneg hy (show 0 ≤ W by omega)
  have e : ((y * W + x).toNat : Int) = y * W + x := by omega
  unfold pt mk2
  rw [e, (split_at hx hy).1, (split_at hx hy).2]
theorem mk2_pt {W : Int} (p : Nat → Int) (n : Nat) : mk2 W (pt W p) n = p n := by
  unfold mk2 pt
  have : (n : Int) / W * W + (n : Int) % W = n := by rw [Int.mul_comm]; exact Int.mul_ediv_add_emod _ _
  rw [this]; rfl
theorem px_pt {W H x y : Int} {p : Nat → Int} (hx : 0 ≤ x ∧ x < W) (hy : 0 ≤ y ∧ y < H) : px W H p x y = pt W p x y := px_in hx hy
/-- A quarter turn. -/
def quF (W H : Int) (p : Nat → Int) : Nat → Int := mk2 H (fun x y => pt W p y (H - 1 - x))

/-- The quarter turn's target of pixel k. -/
theorem qu_to {W H : Int} {n k : Nat} (hi : ImgOk W H n) (hk : k < n) : 0 ≤ (k : Int) % W * H ∧ (k : Int) % W * H + (H - 1 - (k : Int) / W) < n ∧ 0 ≤ (k : Int) % W * H + (H - 1 - (k : Int) / W) ∧ (k : Int) % W * H ≤ 409600 := by
  obtain ⟨hx, hy, _, kb, nb⟩ := pix_bd hi hk
  obtain ⟨b1, b2, b3, b4⟩ := idx_bd (W := H) (H := W) (x := H - 1 - (k : Int) / W) (y := (k : Int) % W) ⟨hi.h1, hi.h2⟩ ⟨hi.w1, hi.w2⟩ (by omega) hx
  have := hi.len
  rw [Int.mul_comm H W] at b4
  omega
theorem qu_src {W H : Int} {n j : Nat} (hi : ImgOk W H n) (hj : j < n) : 0 ≤ (H - 1 - (j : Int) % H) * W + (j : Int) / H ∧ (H - 1 - (j : Int) % H) * W + (j : Int) / H < n := by
  have hi' : ImgOk H W n := ⟨hi.h1, hi.h2, hi.w1, hi.w2, by rw [Int.mul_comm]; exact hi.len⟩
  obtain ⟨hx, hy, _, _, _⟩ := pix_bd hi' hj
  obtain ⟨b1, b2, b3, b4⟩ := idx_bd (W := W) (H := H) (x := (j : Int) / H) (y := H - 1 - (j : Int) % H) ⟨hi.w1, hi.w2⟩ ⟨hi.h1, hi.h2⟩ hy (by omega)
  have := hi.len
  omega
/-- What stands at j when the first k pixels are turned. -/
def quK (W H : Int) (p : Nat → Int) (k : Nat) (j : Nat) : Value := if ((H - 1 - (j : Int) % H) * W + (j : Int) / H) < k then .int .u8 (quF W H p j) else .int .u8 255
theorem quK_all {W H : Int} {p : Nat → Int} {n : Nat} (hi : ImgOk W H n) : ∀ j, j < n → quK W H p n j = .int .u8 (quF W H p j) := fun j hj => by
  unfold quK; rw [if_pos (qu_src hi hj).2]
theorem quK_step {W H : Int} {p : Nat → Int} {n k : Nat} (hi : ImgOk W H n) (hk : k < n) : ∀ j, j < n → (if j = ((k : Int) % W * H + (H - 1 - (k : Int) / W)).toNat then (.int .u8 (p k) : Value) else quK W H p k j) = quK W H p (k + 1) j := fun j hj => by
  obtain ⟨hx, hy, hk2, kb, nb⟩ := pix_bd hi hk
  obtain ⟨t1, t2, t3, t4⟩ := qu_to hi hk
  have hi' : ImgOk H W n := ⟨hi.h1, hi.h2, hi.w1, hi.w2, by rw [Int.mul_comm]; exact hi.len⟩
  obtain ⟨jx, jy, hj2, _, _⟩ := pix_bd hi' hj
  by_cases e : j = ((k : Int) % W * H + (H - 1 - (k : Int) / W)).toNat
  · rw [if_pos e]
    have ej : (j : Int) = (k : Int) % W * H + (H - 1 - (k : Int) / W) := by omega
    obtain ⟨s1, s2⟩ := split_at (W := H) (x := H - 1 - (k : Int) / W) (y := (k : Int) % W) (by omega) hx.1
    have hs : (H - 1 - (j : Int) % H) * W + (j : Int) / H = k := by rw [ej, s1, s2, show H - 1 - (H - 1 - (k : Int) / W) = (k : Int) / W from by omega]; exact hk2
    unfold quK
    rw [hs, if_pos (by omega)]
    show _ = Value.int .u8 (p ((H - 1 - (j : Int) % H) * W + (j : Int) / H).toNat)
    rw [hs]; rfl
  · rw [if_neg e]
    have hne : (H - 1 - (j : Int) % H) * W + (j : Int) / H ≠ k := by
      intro h
      apply e
      obtain ⟨s1, s2⟩ := split_at (W := W) (x := (j : Int) / H) (y := H - 1 - (j : Int) % H) ⟨jy.1, jy.2⟩ (by omega)
      rw [h] at s1 s2
      rw [s1, s2, show H - 1 - (H - 1 - (j : Int) % H) = (j : Int) % H from by omega, hj2]; rfl
    unfold quK
    by_cases h : (H - 1 - (j : Int) % H) * W + (j : Int) / H < k
    · rw [if_pos h, if_pos (by omega)]
    · rw [if_neg h, if_neg (by omega)]

set_option maxHeartbeats 2000000 in
set_option maxRecDepth 100000 in
theorem quarter_ok (A : Option Addr) (n c : Nat) (W H : Int) (p : Nat → Int) (w : World) (hi : ImgOk W H n) (hr : RdB w A n p) :
    Calls Try.prog 117 #[iv W H A n c] w fun e w' => ∃ g, e = .returned (iv H W (some ⟨g, 0, none⟩) n n) ∧ w.heap.size ≤ g ∧ w'.rowIs g 5 n (fun k => .int .u8 (quF W H p k)) ∧ Below w.heap.size w w' := by
  have HR := rd_later hr
  have HI := Lib.hid hi
  have hnb : n ≤ 409600 := by have := mul_bd ⟨hi.w1, hi.w2⟩ ⟨hi.h1, hi.h2⟩; have := hi.len; omega
  have hW := hi.w1
  have hW2 := hi.w2
  have hH2 := hi.h2
  have hH1 := hi.h1
  clear hr hi
  go_enter Try.func117, Try.ntmps117
  go_wp2_with fail
  refine (blank_any H W n (by rw [Int.mul_comm]; exact HI.out.len) (by omega) _).mono ?_
  rintro e w1 ⟨rfl, hrow, hbw1⟩
  have Hrow := Lib.hid hrow
  have hgl := hrow.lt
  clear hrow
  have hzw1 := hbw1.size
  try simp at hzw1
  have kw1 : Below w.heap.size w w1 := Below.trans (by repeat (first | (with_reducible assumption) | (with_reducible exact Below.refl _ _) | (with_reducible refine Below.drew ?_) | (with_reducible refine below_drewN ?_ _) | ((with_reducible refine Below.alloc ?_ ?_ _); rotate_left; (focus (first | exact Nat.le_refl _ | omega | (simp; done) | (simp; omega) | (simp at *; omega)))) | ((with_reducible refine Below.setCell ?_ ?_ _); rotate_left; (focus (first | exact Nat.le_refl _ | omega | (simp; done) | (simp; omega) | (simp at *; omega)))))) (hbw1.mono (by (focus (first | exact Nat.le_refl _ | omega | (simp; done) | (simp; omega) | (simp at *; omega)))))
  have kzw1 := kw1.size
  have Bin : Blk w1 (w.heap.size) 26 #[.int .i64 W, .int .i64 H, .slice A n c] := Blk.below (by repeat (first | (with_reducible assumption) | (with_reducible exact Blk.new _ _ _) | ((with_reducible refine Blk.new_at _ _ _ ?_); (focus (first | (simp; done) | omega))) | (with_reducible refine Blk.drew ?_) | (with_reducible refine Blk.drewN ?_ _) | (with_reducible refine Blk.alloc ?_ _) | ((with_reducible refine Blk.far ?_ ?_ _); rotate_left; (focus (first | (simp; done) | (simp; omega) | omega))))) hbw1 (by (focus (first | omega | (simp; done) | (simp; omega) | (simp at *; omega))))
  try clear ci fi
  try clear Bi
  have Bi := Bin
  clear Bin
  have ci := Bi.cell
  have fi := Bi.frozen
  have liw1 := Bi.lt
  have Ban : Blk w1 (w.heap.size + 1) 26 #[.int .i64 0, .int .i64 0, .slice none 0 0] := Blk.below (by repeat (first | (with_reducible assumption) | (with_reducible exact Blk.new _ _ _) | ((with_reducible refine Blk.new_at _ _ _ ?_); (focus (first | (simp; done) | omega))) | (with_reducible refine Blk.drew ?_) | (with_reducible refine Blk.drewN ?_ _) | (with_reducible refine Blk.alloc ?_ _) | ((with_reducible refine Blk.far ?_ ?_ _); rotate_left; (focus (first | (simp; done) | (simp; omega) | omega))))) hbw1 (by (focus (first | omega | (simp; done) | (simp; omega) | (simp at *; omega))))
  try clear ca fa
  try clear Ba
  have Ba := Ban
  clear Ban
  have ca := Ba.cell
  have fa := Ba.frozen
  have law1 := Ba.lt
  clear fi ca fa
  have H0 : LI w (w.heap.size + 1 + 1 + 2) n (quK W H p 0) [(w.heap.size, 26, #[.int .i64 W, .int .i64 H, .slice A n c]), (w.heap.size + 1, 26, #[.int .i64 0, .int .i64 0, .slice none 0 0]),
      (w1.heap.size, 26, #[.int .i64 H, .int .i64 W, .slice (some ⟨w.heap.size + 1 + 1 + 2, 0, none⟩) n n])] (w1.alloc (.cells #[.int .i64 H, .int .i64 W, .slice (some ⟨w.heap.size + 1 + 1 + 2, 0, none⟩) n n] 26)) := by
    simp at hgl
    refine ⟨?_, ?_, by omega, (by repeat (first | (with_reducible assumption) | (with_reducible exact Below.refl _ _) | (with_reducible refine Below.drew ?_) | (with_reducible refine below_drewN ?_ _) | ((with_reducible refine Below.alloc ?_ ?_ _); rotate_left; (focus (first | exact Nat.le_refl _ | omega | (simp; done) | (simp; omega) | (simp at *; omega)))) | ((with_reducible refine Below.setCell ?_ ?_ _); rotate_left; (focus (first | exact Nat.le_refl _ | omega | (simp; done) | (simp; omega) | (simp at *; omega))))))⟩
    · refine ((by simpa using Hrow.out : w1.rowIs (w.heap.size + 1 + 1 + 2) 5 n _).alloc _).congr fun j hj => ?_
      unfold quK
      rw [if_neg (by have := (qu_src HI.out hj).1; omega)]
    · intro x hx
      simp only [List.mem_cons, List.not_mem_nil, or_false] at hx
      rcases hx with rfl | rfl | rfl
      · exact ⟨Bi.alloc _, (by (focus (first | (simp; done) | (simp; omega) | omega)))⟩
      · exact ⟨Ba.alloc _, (by (focus (first | (simp; done) | (simp; omega) | omega)))⟩
      · exact ⟨Blk.new _ _ _, (by (focus (first | (simp; done) | (simp; omega) | omega)))⟩
  clear Bi Ba Hrow hbw1
  go_wp2
  clear ci
  go_loopg [16] n (fun gk s4 wr => ∃ k : Nat, k ≤ n ∧ gk = n - k ∧ s4 = .int .i64 k ∧ LI w (w.heap.size + 1 + 1 + 2) n (quK W H p k) [(w.heap.size, 26, #[.int .i64 W, .int .i64 H, .slice A n c]), (w.heap.size + 1, 26, #[.int .i64 0, .int .i64 0, .slice none 0 0]),
      (w1.heap.size, 26, #[.int .i64 H, .int .i64 W, .slice (some ⟨w.heap.size + 1 + 1 + 2, 0, none⟩) n n])] wr)
  case atStart => exact ⟨0, by omega, rfl, rfl, H0⟩
  case round =>
    obtain ⟨k, hk, rfl, rfl, hI⟩ := hrel
    clear H0
    have HS := Lib.hid hI
    have Bo := hI.b (b := w1.heap.size) (t := 26) (cs := #[.int .i64 H, .int .i64 W, .slice (some ⟨w.heap.size + 1 + 1 + 2, 0, none⟩) n n]) (by simp)
    have co := Bo.cell
    clear Bo
    by_cases hlt : k < n
    · have Bi := hI.b (b := w.heap.size) (t := 26) (cs := #[.int .i64 W, .int .i64 H, .slice A n c]) (by simp)
      have ci := Bi.cell
      obtain ⟨⟨x1, x2⟩, ⟨y1, y2⟩, _, kb, _⟩ := pix_bd HI.out hlt
      obtain ⟨q1, q2, q3, q4⟩ := qu_to HI.out hlt
      obtain ⟨b, off, rfl, hcl⟩ := HR.out _ hI.bel (by omega)
      have hck := hcl k hlt
      obtain ⟨i, hi⟩ : ∃ i : Nat, (i : Int) = (k : Int) % W * H + (H - 1 - (k : Int) / W) := ⟨((k : Int) % W * H + (H - 1 - (k : Int) / W)).toNat, by omega⟩
      have hin : i < n := by omega
      have st := hI.row.cell hin
      have fz := hI.row.frozen i
      have ST := Lib.hid (quK_step (p := p) HI.out hlt)
      rw [← hi, Int.toNat_natCast] at ST
      have u1 : (k : Int).tmod W = (k : Int) % W := Int.tmod_eq_emod_of_nonneg (by omega)
      have u2 : (k : Int).tdiv W = (k : Int) / W := Int.tdiv_eq_ediv_of_nonneg (by omega)
      have u3 : ¬ W = 0 := by omega
      have u4 : IntKind.i64.wrap ((k : Int) % W) = (k : Int) % W := IntWalk.i64_in _ (by omega)
      have u5 : IntKind.i64.wrap ((k : Int) / W) = (k : Int) / W := IntWalk.i64_in _ (by omega)
      have u6 : IntKind.i64.wrap ((k : Int) % W * H) = (k : Int) % W * H := IntWalk.i64_in _ (by omega)
      have u7 : IntKind.i64.wrap ((k : Int) % W * H + H) = (k : Int) % W * H + H := IntWalk.i64_in _ (by omega)
      have u8 : IntKind.i64.wrap ((k : Int) % W * H + H - 1) = (k : Int) % W * H + H - 1 := IntWalk.i64_in _ (by omega)
      have u9 : IntKind.i64.wrap ((k : Int) % W * H + H - 1 - (k : Int) / W) = (i : Int) := by rw [hi, show (k : Int) % W * H + H - 1 - (k : Int) / W = (k : Int) % W * H + (H - 1 - (k : Int) / W) from by omega]; exact IntWalk.i64_in _ (by omega)
      have hi0 : (0 : Int) ≤ (i : Int) := by omega
      have hin2 : (i : Int) < (n : Int) := by omega
      clear hcl hI Bi hi q1 q2 q3
      go_wp2
      go_quiet (fail)
      go_wp2
      go_roundg (n - (k + 1))
      case measure => omega
      case rel => exact ⟨k + 1, by omega, rfl, by go_num, (HS.out.set (by repeat (first | (with_reducible assumption) | (with_reducible exact Below.refl _ _) | (with_reducible refine Below.drew ?_) | (with_reducible refine below_drewN ?_ _) | ((with_reducible refine Below.alloc ?_ ?_ _); rotate_left; (focus (first | exact Nat.le_refl _ | omega | (simp; done) | (simp; omega) | (simp at *; omega)))) | ((with_reducible refine Below.setCell ?_ ?_ _); rotate_left; (focus (first | exact Nat.le_refl _ | omega | (simp; done) | (simp; omega) | (simp at *; omega)))))) i _).congr ST.out⟩
    · obtain rfl : k = n := by omega
      have Ba := hI.b (b := w.heap.size + 1) (t := 26) (cs := #[.int .i64 0, .int .i64 0, .slice none 0 0]) (by simp)
      have ca := Ba.cell
      have fa := Ba.frozen
      have Hrow := Lib.hid (hI.row.congr (quK_all HI.out))
      have hbel := hI.bel
      clear hI
      go_wp2
      refine bodyPost_ret (v := (iv H W (some ⟨w.heap.size + 1 + 1 + 2, 0, none⟩) k k)) (by simp [results, Try.results117, go_sem, *]) rfl ?_
      refine ⟨_, rfl, by omega, ?_, (by repeat (first | (with_reducible assumption) | (with_reducible exact Below.refl _ _) | (with_reducible refine Below.drew ?_) | (with_reducible refine below_drewN ?_ _) | ((with_reducible refine Below.alloc ?_ ?_ _); rotate_left; (focus (first | exact Nat.le_refl _ | omega | (simp; done) | (simp; omega) | (simp at *; omega)))) | ((with_reducible refine Below.setCell ?_ ?_ _); rotate_left; (focus (first | exact Nat.le_refl _ | omega | (simp; done) | (simp; omega) | (simp at *; omega))))))⟩
      have := Hrow.out
      exact (by repeat (first | (with_reducible assumption) | (with_reducible refine World.rowIs.drew ?_) | (with_reducible refine rowIs_drewN ?_ _) | (with_reducible refine World.rowIs.alloc ?_ _) | ((with_reducible refine World.rowIs.setOther ?_ ?_ _); rotate_left; (focus (first | (simp; done) | (simp; omega) | omega)))))

end Go.Proofs.Ytpdjiokmafoppaa
