/- distort.ShiftColumns. Conditions: the pixels and the numbers read. -/
import Derived.Test.YtpdjiokmafoppaaShiftF
namespace Go.Proofs.Ytpdjiokmafoppaa
open Go.RowKit

/-- Columns shifted. -/
def scF (W H : Int) (p q : Nat → Int) (m : Nat) : Nat → Int := mk2 W (fun x y => px W H p x (y - elF q m x))
/-- What stands at j when the first k pixels are moved. -/
def scK (W H : Int) (p q : Nat → Int) (m k j : Nat) : Value :=
  if 0 ≤ (j : Int) / W - elF q m ((j : Int) % W) ∧ (j : Int) / W - elF q m ((j : Int) % W) < H ∧ ((j : Int) / W - elF q m ((j : Int) % W)) * W + (j : Int) % W < k then .int .u8 (scF W H p q m j) else .int .u8 255
theorem scK_0 {W H : Int} {p q : Nat → Int} {m j : Nat} (hW : 1 ≤ W) : scK W H p q m 0 j = .int .u8 255 := by
  unfold scK
  rw [if_neg]
  rintro ⟨a, _, b⟩
  have := Int.mul_nonneg a (show 0 ≤ W by omega)
  have := Int.emod_nonneg (j : Int) (show W ≠ 0 by omega)
  omega
theorem scK_all {W H : Int} {p q : Nat → Int} {m n N : Nat} (hi : ImgOk W H n) (hN : ∀ j : Nat, j < N → 0 ≤ (j : Int) % W ∧ (j : Int) % W < W) : ∀ j, j < N → scK W H p q m n j = .int .u8 (scF W H p q m j) := fun j hj => by
  unfold scK
  by_cases h : 0 ≤ (j : Int) / W - elF q m ((j : Int) % W) ∧ (j : Int) / W - elF q m ((j : Int) % W) < H
  · obtain ⟨_, _, _, b⟩ := idx_bd (W := W) (H := H) ⟨hi.w1, hi.w2⟩ ⟨hi.h1, hi.h2⟩ (hN j hj) h
    have := hi.len
    rw [if_pos ⟨h.1, h.2, by omega⟩]
  · rw [if_neg (fun a => h ⟨a.1, a.2.1⟩)]
    show _ = Value.int .u8 (px W H p ((j : Int) % W) ((j : Int) / W - elF q m ((j : Int) % W)))
    rw [px_out (fun a => h ⟨a.2.2.1, a.2.2.2⟩)]
theorem scK_step {W H : Int} {p q : Nat → Int} {m n k : Nat} (hi : ImgOk W H n) (hk : k < n) (i : Nat) (he : (i : Int) = ((k : Int) / W + elF q m ((k : Int) % W)) * W + (k : Int) % W) (h0 : 0 ≤ elF q m ((k : Int) % W)) (j : Nat) :
    (if j = i then (.int .u8 (p k) : Value) else scK W H p q m k j) = scK W H p q m (k + 1) j := by
  obtain ⟨hx, hy, hk2, kb, nb⟩ := pix_bd hi hk
  obtain ⟨s1, s2⟩ := split_at (W := W) (x := (k : Int) % W) (y := (k : Int) / W + elF q m ((k : Int) % W)) hx (by omega)
  rw [← he] at s1 s2
  by_cases e : j = i
  · rw [if_pos e, e]
    unfold scK
    have e2 : (i : Int) / W - elF q m ((i : Int) % W) = (k : Int) / W := by rw [s1, s2]; omega
    rw [e2, s1, hk2, if_pos ⟨hy.1, hy.2, by omega⟩]
    show _ = Value.int .u8 (px W H p ((i : Int) % W) ((i : Int) / W - elF q m ((i : Int) % W)))
    rw [e2, s1, px_in hx hy, hk2]; rfl
  · rw [if_neg e]
    unfold scK
    by_cases h : 0 ≤ (j : Int) / W - elF q m ((j : Int) % W) ∧ (j : Int) / W - elF q m ((j : Int) % W) < H ∧ ((j : Int) / W - elF q m ((j : Int) % W)) * W + (j : Int) % W < k
    · rw [if_pos h, if_pos ⟨h.1, h.2.1, by omega⟩]
    · rw [if_neg h, if_neg]
      rintro ⟨a, b, c⟩
      apply e
      have hk3 : ((j : Int) / W - elF q m ((j : Int) % W)) * W + (j : Int) % W = k := by
        have : ¬ ((j : Int) / W - elF q m ((j : Int) % W)) * W + (j : Int) % W < k := fun x => h ⟨a, b, x⟩
        omega
      have w1 := hi.w1
      obtain ⟨r1, r2⟩ := split_at (W := W) (x := (j : Int) % W) (y := (j : Int) / W - elF q m ((j : Int) % W)) ⟨Int.emod_nonneg _ (by omega), Int.emod_lt_of_pos _ (by omega)⟩ a
      rw [hk3] at r1 r2
      have : (j : Int) = i := by
        rw [he, r1, r2, show (j : Int) / W - elF q m ((j : Int) % W) + elF q m ((j : Int) % W) = (j : Int) / W from by omega, Int.mul_comm]
        exact (Int.mul_ediv_add_emod _ _).symm
      omega

set_option maxHeartbeats 1000000 in
theorem ShiftColumns_bad (A B : Option Addr) (n c m d : Nat) (W H : Int) (q : Nat → Int) (w : World) (hq : RdI w B m q) (hb : (shF (imgF W H n) (lsF q 0 24 m) (H + moF q m)).1 ≠ 0) :
    Calls Try.prog 63 #[iv W H A n c, .slice B m d] w fun e w' => e = .returned (.tuple #[iv 0 0 none 0 0, fv (shF (imgF W H n) (lsF q 0 24 m) (H + moF q m)).1 (shF (imgF W H n) (lsF q 0 24 m) (H + moF q m)).2]) ∧ Below w.heap.size w w' := by
  have HQ := rd_later hq
  clear hq
  obtain ⟨c0, i0, hci⟩ : ∃ c0 i0, shF (imgF W H n) (lsF q 0 24 m) (H + moF q m) = (c0, i0) := ⟨_, _, rfl⟩
  have hb0 : (c0 == 0) = false := by rw [hci] at hb; simpa using hb
  have HCI := Lib.hid hci
  clear hb hci
  rw [HCI.out]
  go_enter Try.func63, Try.ntmps63
  go_wp2_with fail
  refine (checkShifts_any A B n c m d W H H q _ (HQ.out _ (by repeat (first | (with_reducible assumption) | (with_reducible exact Below.refl _ _) | (with_reducible refine Below.drew ?_) | (with_reducible refine below_drewN ?_ _) | ((with_reducible refine Below.alloc ?_ ?_ _); rotate_left; (focus (first | exact Nat.le_refl _ | omega | (simp; done) | (simp; omega) | (simp at *; omega)))) | ((with_reducible refine Below.setCell ?_ ?_ _); rotate_left; (focus (first | exact Nat.le_refl _ | omega | (simp; done) | (simp; omega) | (simp at *; omega))))))) (.inr rfl)).mono ?_
  rw [HCI.out]
  rintro e w1 ⟨rfl, hbw1⟩
  obtain ⟨hcw1, hfw1⟩ := bcell hbw1
  have hzw1 := hbw1.size
  try simp at hzw1
  have kw1 : Below w.heap.size w w1 := Below.trans (by repeat (first | (with_reducible assumption) | (with_reducible exact Below.refl _ _) | (with_reducible refine Below.drew ?_) | (with_reducible refine below_drewN ?_ _) | ((with_reducible refine Below.alloc ?_ ?_ _); rotate_left; (focus (first | exact Nat.le_refl _ | omega | (simp; done) | (simp; omega) | (simp at *; omega)))) | ((with_reducible refine Below.setCell ?_ ?_ _); rotate_left; (focus (first | exact Nat.le_refl _ | omega | (simp; done) | (simp; omega) | (simp at *; omega)))))) (hbw1.mono (by (focus (first | exact Nat.le_refl _ | omega | (simp; done) | (simp; omega) | (simp at *; omega)))))
  have kzw1 := kw1.size
  have lw1w0 : w.heap.size < w1.heap.size := by omega
  have lw1w1 : w.heap.size + 1 < w1.heap.size := by omega
  have lw1w2 : w.heap.size + 2 < w1.heap.size := by omega
  go_wp2
  go_region
  go_wp2
  refine bodyPost_ret (v := (.tuple #[iv 0 0 none 0 0, fv c0 i0])) (by simp [results, Try.results63, go_sem, *]) rfl ?_
  exact ⟨rfl, (by repeat (first | (with_reducible assumption) | (with_reducible exact Below.refl _ _) | (with_reducible refine Below.drew ?_) | (with_reducible refine below_drewN ?_ _) | ((with_reducible refine Below.alloc ?_ ?_ _); rotate_left; (focus (first | exact Nat.le_refl _ | omega | (simp; done) | (simp; omega) | (simp at *; omega)))) | ((with_reducible refine Below.setCell ?_ ?_ _); rotate_left; (focus (first | exact Nat.le_refl _ | omega | (simp; done) | (simp; omega) | (simp at *; omega))))))⟩

set_option maxHeartbeats 1000000 in
theorem ShiftColumns_nil (A B : Option Addr) (n c d : Nat) (W H : Int) (p q : Nat → Int) (w : World) (hi : ImgOk W H n) (hr : RdB w A n p) :
    Calls Try.prog 63 #[iv W H A n c, .slice B 0 d] w fun e w' => ∃ g, e = .returned (.tuple #[iv W H (some ⟨g, 0, none⟩) n n, fv 0 0]) ∧ w.heap.size ≤ g ∧ w'.rowIs g 5 n (fun k => .int .u8 (p k)) ∧ Below w.heap.size w w' := by
  have HR := rd_later hr
  have HF := Lib.hid (imgF_ok hi)
  have hnb : n ≤ 1073741824 := by have := mul_bd ⟨hi.w1, hi.w2⟩ ⟨hi.h1, hi.h2⟩; have := hi.len; omega
  have HC : Hid (shF (imgF W H n) (lsF q 0 24 0) (H + moF q 0) = (0, 0)) := Lib.hid (by
    rw [HF.out, show lsF q 0 24 0 = (0, 0) from lsF_ok (by omega) (ff_none (fun j hj => absurd hj (Nat.not_lt_zero _)))]
    exact shF_0 (by have := hi.h2; show H + 0 ≤ 640; omega))
  clear hr hi
  go_enter Try.func63, Try.ntmps63
  go_wp2_with fail
  refine (checkShifts_any A B n c 0 d W H H q _ (by intro h; omega) (.inr rfl)).mono ?_
  rw [HC.out]
  rintro e w1 ⟨rfl, hbw1⟩
  obtain ⟨hcw1, hfw1⟩ := bcell hbw1
  have hzw1 := hbw1.size
  try simp at hzw1
  have kw1 : Below w.heap.size w w1 := Below.trans (by repeat (first | (with_reducible assumption) | (with_reducible exact Below.refl _ _) | (with_reducible refine Below.drew ?_) | (with_reducible refine below_drewN ?_ _) | ((with_reducible refine Below.alloc ?_ ?_ _); rotate_left; (focus (first | exact Nat.le_refl _ | omega | (simp; done) | (simp; omega) | (simp at *; omega)))) | ((with_reducible refine Below.setCell ?_ ?_ _); rotate_left; (focus (first | exact Nat.le_refl _ | omega | (simp; done) | (simp; omega) | (simp at *; omega)))))) (hbw1.mono (by (focus (first | exact Nat.le_refl _ | omega | (simp; done) | (simp; omega) | (simp at *; omega)))))
  have kzw1 := kw1.size
  have lw1w0 : w.heap.size < w1.heap.size := by omega
  have lw1w1 : w.heap.size + 1 < w1.heap.size := by omega
  have lw1w2 : w.heap.size + 2 < w1.heap.size := by omega
  go_wp2_with fail
  refine (copyOf_any A n c W H p hnb _ (HR.out _ (by repeat (first | (with_reducible assumption) | (with_reducible exact Below.refl _ _) | (with_reducible refine Below.drew ?_) | (with_reducible refine below_drewN ?_ _) | ((with_reducible refine Below.alloc ?_ ?_ _); rotate_left; (focus (first | exact Nat.le_refl _ | omega | (simp; done) | (simp; omega) | (simp at *; omega)))) | ((with_reducible refine Below.setCell ?_ ?_ _); rotate_left; (focus (first | exact Nat.le_refl _ | omega | (simp; done) | (simp; omega) | (simp at *; omega)))))))).mono ?_
  rintro e w2 ⟨rfl, hrow, hbw2⟩
  have Hrow := Lib.hid hrow
  clear hrow
  obtain ⟨hcw2, hfw2⟩ := bcell hbw2
  have hzw2 := hbw2.size
  try simp at hzw2
  have kw2 : Below w.heap.size w w2 := Below.trans (by repeat (first | (with_reducible assumption) | (with_reducible exact Below.refl _ _) | (with_reducible refine Below.drew ?_) | (with_reducible refine below_drewN ?_ _) | ((with_reducible refine Below.alloc ?_ ?_ _); rotate_left; (focus (first | exact Nat.le_refl _ | omega | (simp; done) | (simp; omega) | (simp at *; omega)))) | ((with_reducible refine Below.setCell ?_ ?_ _); rotate_left; (focus (first | exact Nat.le_refl _ | omega | (simp; done) | (simp; omega) | (simp at *; omega)))))) (hbw2.mono (by (focus (first | exact Nat.le_refl _ | omega | (simp; done) | (simp; omega) | (simp at *; omega)))))
  have kzw2 := kw2.size
  have lw2w10 : w1.heap.size < w2.heap.size := by omega
  have lw2w0 : w.heap.size < w2.heap.size := by omega
  have lw2w1 : w.heap.size + 1 < w2.heap.size := by omega
  have lw2w2 : w.heap.size + 2 < w2.heap.size := by omega
  go_wp2
  refine bodyPost_ret (v := (.tuple #[iv W H (some ⟨w1.heap.size + 1 + 2, 0, none⟩) n n, fv 0 0])) (by simp [results, Try.results63, go_sem, *]) rfl ?_
  refine ⟨_, rfl, by omega, ?_, (by repeat (first | (with_reducible assumption) | (with_reducible exact Below.refl _ _) | (with_reducible refine Below.drew ?_) | (with_reducible refine below_drewN ?_ _) | ((with_reducible refine Below.alloc ?_ ?_ _); rotate_left; (focus (first | exact Nat.le_refl _ | omega | (simp; done) | (simp; omega) | (simp at *; omega)))) | ((with_reducible refine Below.setCell ?_ ?_ _); rotate_left; (focus (first | exact Nat.le_refl _ | omega | (simp; done) | (simp; omega) | (simp at *; omega))))))⟩
  have := Hrow.out
  simp at this
  exact (by repeat (first | (with_reducible assumption) | (with_reducible refine World.rowIs.drew ?_) | (with_reducible refine rowIs_drewN ?_ _) | (with_reducible refine World.rowIs.alloc ?_ _) | ((with_reducible refine World.rowIs.setOther ?_ ?_ _); rotate_left; (focus (first | (simp; done) | (simp; omega) | omega)))))

end Go.Proofs.Ytpdjiokmafoppaa
