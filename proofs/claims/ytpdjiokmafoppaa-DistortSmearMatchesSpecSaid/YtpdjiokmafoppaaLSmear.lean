/- The walk of DistortSmearMatchesSpec: it returns true and turns nothing that was there. Conditions: the pixels read as bytes. -/
import Derived.Test.YtpdjiokmafoppaaBent
import Derived.Test.YtpdjiokmafoppaaField
namespace Go.Proofs.Ytpdjiokmafoppaa
open Go.RowKit

set_option maxHeartbeats 2000000 in
theorem LSmear_bad (A : Option Addr) (n c : Nat) (W H : Int) (w : World) (hb : (imgF W H n).1 ≠ 0) :
    Calls Try.prog 11 #[iv W H A n c] w fun e w' => e = .returned (.bool true) ∧ Below w.heap.size w w' := by
  have HB := Lib.hid hb
  obtain ⟨c0, i0, hci⟩ : ∃ c0 i0, imgF W H n = (c0, i0) := ⟨_, _, rfl⟩
  have hb0 : (c0 != 0) = true := by rw [hci] at hb; simpa using hb
  have HC0 : Hid (c0 ≠ 0) := Lib.hid (by rw [hci] at hb; exact hb)
  have HCI := Lib.hid hci
  clear hb hci
  go_enter Try.func11, Try.ntmps11
  go_wp2_with fail
  refine (Smear_bad A n c W H _ HB.out).mono ?_
  rw [HCI.out]
  rintro e w1 ⟨rfl, hbw1⟩
  have hzw1 := hbw1.size
  try simp at hzw1
  have kw1 : Below w.heap.size w w1 := Below.trans (by repeat (first | (with_reducible assumption) | (with_reducible exact Below.refl _ _) | (with_reducible refine Below.drew ?_) | (with_reducible refine below_drewN ?_ _) | ((with_reducible refine Below.alloc ?_ ?_ _); rotate_left; (focus (first | exact Nat.le_refl _ | omega | (simp; done) | (simp; omega) | (simp at *; omega)))) | ((with_reducible refine Below.setCell ?_ ?_ _); rotate_left; (focus (first | exact Nat.le_refl _ | omega | (simp; done) | (simp; omega) | (simp at *; omega)))))) (hbw1.mono (by (focus (first | exact Nat.le_refl _ | omega | (simp; done) | (simp; omega) | (simp at *; omega)))))
  have kzw1 := kw1.size
  have Bin : Blk w1 (w.heap.size) 26 #[.int .i64 W, .int .i64 H, .slice A n c] := Blk.below (by repeat (first | (with_reducible assumption) | (with_reducible exact Blk.new _ _ _) | ((with_reducible refine Blk.new_at _ _ _ ?_); (focus (first | (simp; done) | omega))) | (with_reducible refine Blk.drew ?_) | (with_reducible refine Blk.drewN ?_ _) | (with_reducible refine Blk.alloc ?_ _) | ((with_reducible refine Blk.far ?_ ?_ _); rotate_left; (focus (first | (simp; done) | (simp; omega) | omega))))) hbw1 (by (focus (first | omega | (simp; done) | (simp; omega) | (simp at *; omega))))
  try clear ci fi
  try clear Bi
  have Bi := Bin
  clear Bin
  have ci := Bi.cell
  have fi := Bi.frozen
  have liw1 := Bi.lt
  go_wp2_with fail
  refine (ImageFault_any A n c W H _).mono ?_
  rw [HCI.out]
  rintro e w2 ⟨rfl, hbw2⟩
  have hzw2 := hbw2.size
  try simp at hzw2
  have kw2 : Below w.heap.size w w2 := Below.trans (by repeat (first | (with_reducible assumption) | (with_reducible exact Below.refl _ _) | (with_reducible refine Below.drew ?_) | (with_reducible refine below_drewN ?_ _) | ((with_reducible refine Below.alloc ?_ ?_ _); rotate_left; (focus (first | exact Nat.le_refl _ | omega | (simp; done) | (simp; omega) | (simp at *; omega)))) | ((with_reducible refine Below.setCell ?_ ?_ _); rotate_left; (focus (first | exact Nat.le_refl _ | omega | (simp; done) | (simp; omega) | (simp at *; omega)))))) (hbw2.mono (by (focus (first | exact Nat.le_refl _ | omega | (simp; done) | (simp; omega) | (simp at *; omega)))))
  have kzw2 := kw2.size
  have Bin : Blk w2 (w.heap.size) 26 #[.int .i64 W, .int .i64 H, .slice A n c] := Blk.below (by repeat (first | (with_reducible assumption) | (with_reducible exact Blk.new _ _ _) | ((with_reducible refine Blk.new_at _ _ _ ?_); (focus (first | (simp; done) | omega))) | (with_reducible refine Blk.drew ?_) | (with_reducible refine Blk.drewN ?_ _) | (with_reducible refine Blk.alloc ?_ _) | ((with_reducible refine Blk.far ?_ ?_ _); rotate_left; (focus (first | (simp; done) | (simp; omega) | omega))))) hbw2 (by (focus (first | omega | (simp; done) | (simp; omega) | (simp at *; omega))))
  try clear ci fi
  try clear Bi
  have Bi := Bin
  clear Bin
  have ci := Bi.cell
  have fi := Bi.frozen
  have liw2 := Bi.lt
  have Bxn : Blk w2 (w1.heap.size) 26 #[.int .i64 0, .int .i64 0, .slice none 0 0] := Blk.below (by repeat (first | (with_reducible assumption) | (with_reducible exact Blk.new _ _ _) | ((with_reducible refine Blk.new_at _ _ _ ?_); (focus (first | (simp; done) | omega))) | (with_reducible refine Blk.drew ?_) | (with_reducible refine Blk.drewN ?_ _) | (with_reducible refine Blk.alloc ?_ _) | ((with_reducible refine Blk.far ?_ ?_ _); rotate_left; (focus (first | (simp; done) | (simp; omega) | omega))))) hbw2 (by (focus (first | omega | (simp; done) | (simp; omega) | (simp at *; omega))))
  try clear cx fx
  try clear Bx
  have Bx := Bxn
  clear Bxn
  have cx := Bx.cell
  have fx := Bx.frozen
  have lxw2 := Bx.lt
  have l12 : w1.heap.size < w2.heap.size := by omega
  have Byn : Blk w2 (w1.heap.size + 1) 28 #[.int .i64 c0, .int .i64 i0] := Blk.below (by repeat (first | (with_reducible assumption) | (with_reducible exact Blk.new _ _ _) | ((with_reducible refine Blk.new_at _ _ _ ?_); (focus (first | (simp; done) | omega))) | (with_reducible refine Blk.drew ?_) | (with_reducible refine Blk.drewN ?_ _) | (with_reducible refine Blk.alloc ?_ _) | ((with_reducible refine Blk.far ?_ ?_ _); rotate_left; (focus (first | (simp; done) | (simp; omega) | omega))))) hbw2 (by (focus (first | omega | (simp; done) | (simp; omega) | (simp at *; omega))))
  try clear cy fy
  try clear By
  have By := Byn
  clear Byn
  have cy := By.cell
  have fy := By.frozen
  have lyw2 := By.lt
  go_wp2_with fail
  go_wp2_with fail
  refine (answer_bad none 0 0 0 0 c0 i0 _ HC0.out).mono ?_
  rintro e w3 ⟨rfl, hbw3⟩
  have hzw3 := hbw3.size
  try simp at hzw3
  have kw3 : Below w.heap.size w w3 := Below.trans (by repeat (first | (with_reducible assumption) | (with_reducible exact Below.refl _ _) | (with_reducible refine Below.drew ?_) | (with_reducible refine below_drewN ?_ _) | ((with_reducible refine Below.alloc ?_ ?_ _); rotate_left; (focus (first | exact Nat.le_refl _ | omega | (simp; done) | (simp; omega) | (simp at *; omega)))) | ((with_reducible refine Below.setCell ?_ ?_ _); rotate_left; (focus (first | exact Nat.le_refl _ | omega | (simp; done) | (simp; omega) | (simp at *; omega)))))) (hbw3.mono (by (focus (first | exact Nat.le_refl _ | omega | (simp; done) | (simp; omega) | (simp at *; omega)))))
  have kzw3 := kw3.size
  go_wp2_with fail
  go_wp2_with fail
  refine (bent_any _).mono ?_
  rintro e w4 ⟨rfl, hbw4⟩
  have hzw4 := hbw4.size
  try simp at hzw4
  have kw4 : Below w.heap.size w w4 := Below.trans (by repeat (first | (with_reducible assumption) | (with_reducible exact Below.refl _ _) | (with_reducible refine Below.drew ?_) | (with_reducible refine below_drewN ?_ _) | ((with_reducible refine Below.alloc ?_ ?_ _); rotate_left; (focus (first | exact Nat.le_refl _ | omega | (simp; done) | (simp; omega) | (simp at *; omega)))) | ((with_reducible refine Below.setCell ?_ ?_ _); rotate_left; (focus (first | exact Nat.le_refl _ | omega | (simp; done) | (simp; omega) | (simp at *; omega)))))) (hbw4.mono (by (focus (first | exact Nat.le_refl _ | omega | (simp; done) | (simp; omega) | (simp at *; omega)))))
  have kzw4 := kw4.size
  go_wp2
  go_ret
  exact ⟨rfl, (by repeat (first | (with_reducible assumption) | (with_reducible exact Below.refl _ _) | (with_reducible refine Below.drew ?_) | (with_reducible refine below_drewN ?_ _) | ((with_reducible refine Below.alloc ?_ ?_ _); rotate_left; (focus (first | exact Nat.le_refl _ | omega | (simp; done) | (simp; omega) | (simp at *; omega)))) | ((with_reducible refine Below.setCell ?_ ?_ _); rotate_left; (focus (first | exact Nat.le_refl _ | omega | (simp; done) | (simp; omega) | (simp at *; omega))))))⟩

set_option maxHeartbeats 4000000 in
theorem LSmear_ok (A : Option Addr) (n c : Nat) (W H : Int) (p : Nat → Int) (w : World) (hi : ImgOk W H n) (hp : Byt p) (hr : RdB w A n p) :
    Calls Try.prog 11 #[iv W H A n c] w fun e w' => e = .returned (.bool true) ∧ Below w.heap.size w w' := by
  have HR := rd_later hr
  have HI := Lib.hid hi
  have HF := Lib.hid (imgF_ok hi)
  clear hr hi
  go_enter Try.func11, Try.ntmps11
  go_wp2_with fail
  refine (Smear_ok A n c W H p _ HI.out hp (HR.out _ (by repeat (first | (with_reducible assumption) | (with_reducible exact Below.refl _ _) | (with_reducible refine Below.drew ?_) | (with_reducible refine below_drewN ?_ _) | ((with_reducible refine Below.alloc ?_ ?_ _); rotate_left; (focus (first | exact Nat.le_refl _ | omega | (simp; done) | (simp; omega) | (simp at *; omega)))) | ((with_reducible refine Below.setCell ?_ ?_ _); rotate_left; (focus (first | exact Nat.le_refl _ | omega | (simp; done) | (simp; omega) | (simp at *; omega)))))))).mono ?_
  rintro e w1 ⟨g, rfl, hg, hrow, hbw1⟩
  have R1 := rd_later (Rd.of_row hrow)
  clear hrow
  have hzw1 := hbw1.size
  try simp at hzw1
  have kw1 : Below w.heap.size w w1 := Below.trans (by repeat (first | (with_reducible assumption) | (with_reducible exact Below.refl _ _) | (with_reducible refine Below.drew ?_) | (with_reducible refine below_drewN ?_ _) | ((with_reducible refine Below.alloc ?_ ?_ _); rotate_left; (focus (first | exact Nat.le_refl _ | omega | (simp; done) | (simp; omega) | (simp at *; omega)))) | ((with_reducible refine Below.setCell ?_ ?_ _); rotate_left; (focus (first | exact Nat.le_refl _ | omega | (simp; done) | (simp; omega) | (simp at *; omega)))))) (hbw1.mono (by (focus (first | exact Nat.le_refl _ | omega | (simp; done) | (simp; omega) | (simp at *; omega)))))
  have kzw1 := kw1.size
  have Bin : Blk w1 (w.heap.size) 26 #[.int .i64 W, .int .i64 H, .slice A n c] := Blk.below (by repeat (first | (with_reducible assumption) | (with_reducible exact Blk.new _ _ _) | ((with_reducible refine Blk.new_at _ _ _ ?_); (focus (first | (simp; done) | omega))) | (with_reducible refine Blk.drew ?_) | (with_reducible refine Blk.drewN ?_ _) | (with_reducible refine Blk.alloc ?_ _) | ((with_reducible refine Blk.far ?_ ?_ _); rotate_left; (focus (first | (simp; done) | (simp; omega) | omega))))) hbw1 (by (focus (first | omega | (simp; done) | (simp; omega) | (simp at *; omega))))
  try clear ci fi
  try clear Bi
  have Bi := Bin
  clear Bin
  have ci := Bi.cell
  have fi := Bi.frozen
  have liw1 := Bi.lt
  go_wp2_with fail
  refine (ImageFault_any A n c W H _).mono ?_
  rw [HF.out]
  rintro e w2 ⟨rfl, hbw2⟩
  have hzw2 := hbw2.size
  try simp at hzw2
  have kw2 : Below w.heap.size w w2 := Below.trans (by repeat (first | (with_reducible assumption) | (with_reducible exact Below.refl _ _) | (with_reducible refine Below.drew ?_) | (with_reducible refine below_drewN ?_ _) | ((with_reducible refine Below.alloc ?_ ?_ _); rotate_left; (focus (first | exact Nat.le_refl _ | omega | (simp; done) | (simp; omega) | (simp at *; omega)))) | ((with_reducible refine Below.setCell ?_ ?_ _); rotate_left; (focus (first | exact Nat.le_refl _ | omega | (simp; done) | (simp; omega) | (simp at *; omega)))))) (hbw2.mono (by (focus (first | exact Nat.le_refl _ | omega | (simp; done) | (simp; omega) | (simp at *; omega)))))
  have kzw2 := kw2.size
  have k12 : Below w1.heap.size w1 w2 := Below.trans (by repeat (first | (with_reducible assumption) | (with_reducible exact Below.refl _ _) | (with_reducible refine Below.drew ?_) | (with_reducible refine below_drewN ?_ _) | ((with_reducible refine Below.alloc ?_ ?_ _); rotate_left; (focus (first | exact Nat.le_refl _ | omega | (simp; done) | (simp; omega) | (simp at *; omega)))) | ((with_reducible refine Below.setCell ?_ ?_ _); rotate_left; (focus (first | exact Nat.le_refl _ | omega | (simp; done) | (simp; omega) | (simp at *; omega)))))) (hbw2.mono (by (focus (first | exact Nat.le_refl _ | omega | (simp; done) | (simp; omega) | (simp at *; omega)))))
  have Bin : Blk w2 (w.heap.size) 26 #[.int .i64 W, .int .i64 H, .slice A n c] := Blk.below (by repeat (first | (with_reducible assumption) | (with_reducible exact Blk.new _ _ _) | ((with_reducible refine Blk.new_at _ _ _ ?_); (focus (first | (simp; done) | omega))) | (with_reducible refine Blk.drew ?_) | (with_reducible refine Blk.drewN ?_ _) | (with_reducible refine Blk.alloc ?_ _) | ((with_reducible refine Blk.far ?_ ?_ _); rotate_left; (focus (first | (simp; done) | (simp; omega) | omega))))) hbw2 (by (focus (first | omega | (simp; done) | (simp; omega) | (simp at *; omega))))
  try clear ci fi
  try clear Bi
  have Bi := Bin
  clear Bin
  have ci := Bi.cell
  have fi := Bi.frozen
  have liw2 := Bi.lt
  have Bxn : Blk w2 (w1.heap.size) 26 #[.int .i64 W, .int .i64 H, .slice (some ⟨g, 0, none⟩) n n] := Blk.below (by repeat (first | (with_reducible assumption) | (with_reducible exact Blk.new _ _ _) | ((with_reducible refine Blk.new_at _ _ _ ?_); (focus (first | (simp; done) | omega))) | (with_reducible refine Blk.drew ?_) | (with_reducible refine Blk.drewN ?_ _) | (with_reducible refine Blk.alloc ?_ _) | ((with_reducible refine Blk.far ?_ ?_ _); rotate_left; (focus (first | (simp; done) | (simp; omega) | omega))))) hbw2 (by (focus (first | omega | (simp; done) | (simp; omega) | (simp at *; omega))))
  try clear cx fx
  try clear Bx
  have Bx := Bxn
  clear Bxn
  have cx := Bx.cell
  have fx := Bx.frozen
  have lxw2 := Bx.lt
  have l12 : w1.heap.size < w2.heap.size := by omega
  have Byn : Blk w2 (w1.heap.size + 1) 28 #[.int .i64 0, .int .i64 0] := Blk.below (by repeat (first | (with_reducible assumption) | (with_reducible exact Blk.new _ _ _) | ((with_reducible refine Blk.new_at _ _ _ ?_); (focus (first | (simp; done) | omega))) | (with_reducible refine Blk.drew ?_) | (with_reducible refine Blk.drewN ?_ _) | (with_reducible refine Blk.alloc ?_ _) | ((with_reducible refine Blk.far ?_ ?_ _); rotate_left; (focus (first | (simp; done) | (simp; omega) | omega))))) hbw2 (by (focus (first | omega | (simp; done) | (simp; omega) | (simp at *; omega))))
  try clear cy fy
  try clear By
  have By := Byn
  clear Byn
  have cy := By.cell
  have fy := By.frozen
  have lyw2 := By.lt
  go_wp2_with fail
  obtain ⟨V, hV⟩ : ∃ X : World, X = w2.alloc (.cells #[.int .i64 0, .int .i64 0] 28) := ⟨_, rfl⟩
  rw [← hV]
  have kV : Below w.heap.size w V := by rw [hV]; exact (by repeat (first | (with_reducible assumption) | (with_reducible exact Below.refl _ _) | (with_reducible refine Below.drew ?_) | (with_reducible refine below_drewN ?_ _) | ((with_reducible refine Below.alloc ?_ ?_ _); rotate_left; (focus (first | exact Nat.le_refl _ | omega | (simp; done) | (simp; omega) | (simp at *; omega)))) | ((with_reducible refine Below.setCell ?_ ?_ _); rotate_left; (focus (first | exact Nat.le_refl _ | omega | (simp; done) | (simp; omega) | (simp at *; omega))))))
  have kzV := kV.size
  have zV := congrArg (fun X : World => X.heap.size) hV
  simp at zV
  have kw1V : Below w1.heap.size w1 V := by rw [hV]; exact (by repeat (first | (with_reducible assumption) | (with_reducible exact Below.refl _ _) | (with_reducible refine Below.drew ?_) | (with_reducible refine below_drewN ?_ _) | ((with_reducible refine Below.alloc ?_ ?_ _); rotate_left; (focus (first | exact Nat.le_refl _ | omega | (simp; done) | (simp; omega) | (simp at *; omega)))) | ((with_reducible refine Below.setCell ?_ ?_ _); rotate_left; (focus (first | exact Nat.le_refl _ | omega | (simp; done) | (simp; omega) | (simp at *; omega))))))
  have kw2V : Below w2.heap.size w2 V := by rw [hV]; exact (by repeat (first | (with_reducible assumption) | (with_reducible exact Below.refl _ _) | (with_reducible refine Below.drew ?_) | (with_reducible refine below_drewN ?_ _) | ((with_reducible refine Below.alloc ?_ ?_ _); rotate_left; (focus (first | exact Nat.le_refl _ | omega | (simp; done) | (simp; omega) | (simp at *; omega)))) | ((with_reducible refine Below.setCell ?_ ?_ _); rotate_left; (focus (first | exact Nat.le_refl _ | omega | (simp; done) | (simp; omega) | (simp at *; omega))))))
  have Bin : Blk V (w.heap.size) 26 #[.int .i64 W, .int .i64 H, .slice A n c] := by rw [hV]; exact (by repeat (first | (with_reducible assumption) | (with_reducible exact Blk.new _ _ _) | ((with_reducible refine Blk.new_at _ _ _ ?_); (focus (first | (simp; done) | omega))) | (with_reducible refine Blk.drew ?_) | (with_reducible refine Blk.drewN ?_ _) | (with_reducible refine Blk.alloc ?_ _) | ((with_reducible refine Blk.far ?_ ?_ _); rotate_left; (focus (first | (simp; done) | (simp; omega) | omega)))))
  try clear ci fi
  try clear Bi
  have Bi := Bin
  clear Bin
  have liV := Bi.lt
  have Bxn : Blk V (w1.heap.size) 26 #[.int .i64 W, .int .i64 H, .slice (some ⟨g, 0, none⟩) n n] := by rw [hV]; exact (by repeat (first | (with_reducible assumption) | (with_reducible exact Blk.new _ _ _) | ((with_reducible refine Blk.new_at _ _ _ ?_); (focus (first | (simp; done) | omega))) | (with_reducible refine Blk.drew ?_) | (with_reducible refine Blk.drewN ?_ _) | (with_reducible refine Blk.alloc ?_ _) | ((with_reducible refine Blk.far ?_ ?_ _); rotate_left; (focus (first | (simp; done) | (simp; omega) | omega)))))
  try clear cx fx
  try clear Bx
  have Bx := Bxn
  clear Bxn
  have lxV := Bx.lt
  have Byn : Blk V (w1.heap.size + 1) 28 #[.int .i64 0, .int .i64 0] := by rw [hV]; exact (by repeat (first | (with_reducible assumption) | (with_reducible exact Blk.new _ _ _) | ((with_reducible refine Blk.new_at _ _ _ ?_); (focus (first | (simp; done) | omega))) | (with_reducible refine Blk.drew ?_) | (with_reducible refine Blk.drewN ?_ _) | (with_reducible refine Blk.alloc ?_ _) | ((with_reducible refine Blk.far ?_ ?_ _); rotate_left; (focus (first | (simp; done) | (simp; omega) | omega)))))
  try clear cy fy
  try clear By
  have By := Byn
  clear Byn
  have lyV := By.lt
  have Bzn : Blk V (w2.heap.size) 28 #[.int .i64 0, .int .i64 0] := by rw [hV]; exact (by repeat (first | (with_reducible assumption) | (with_reducible exact Blk.new _ _ _) | ((with_reducible refine Blk.new_at _ _ _ ?_); (focus (first | (simp; done) | omega))) | (with_reducible refine Blk.drew ?_) | (with_reducible refine Blk.drewN ?_ _) | (with_reducible refine Blk.alloc ?_ _) | ((with_reducible refine Blk.far ?_ ?_ _); rotate_left; (focus (first | (simp; done) | (simp; omega) | omega)))))
  try clear cz fz
  try clear Bz
  have Bz := Bzn
  clear Bzn
  have lzV := Bz.lt
  have HSV : Hid (∀ X, Below V.heap.size V X → X.cell? ⟨w.heap.size, 0, none⟩ = some (.int .i64 W) ∧ X.cell? ⟨w.heap.size, 1, none⟩ = some (.int .i64 H) ∧ X.cell? ⟨w.heap.size, 2, none⟩ = some (.slice A n c) ∧ X.cell? ⟨w1.heap.size, 0, none⟩ = some (.int .i64 W) ∧ X.cell? ⟨w1.heap.size, 1, none⟩ = some (.int .i64 H) ∧ X.cell? ⟨w1.heap.size, 2, none⟩ = some (.slice (some ⟨g, 0, none⟩) n n) ∧ X.cell? ⟨w1.heap.size + 1, 0, none⟩ = some (.int .i64 0) ∧ X.cell? ⟨w1.heap.size + 1, 1, none⟩ = some (.int .i64 0) ∧ X.cell? ⟨w2.heap.size, 0, none⟩ = some (.int .i64 0) ∧ X.cell? ⟨w2.heap.size, 1, none⟩ = some (.int .i64 0)) := Lib.hid fun X h => ⟨(h.cell (p := ⟨w.heap.size, 0, none⟩) liV).trans (Bi.cell 0), (h.cell (p := ⟨w.heap.size, 1, none⟩) liV).trans (Bi.cell 1), (h.cell (p := ⟨w.heap.size, 2, none⟩) liV).trans (Bi.cell 2), (h.cell (p := ⟨w1.heap.size, 0, none⟩) lxV).trans (Bx.cell 0), (h.cell (p := ⟨w1.heap.size, 1, none⟩) lxV).trans (Bx.cell 1), (h.cell (p := ⟨w1.heap.size, 2, none⟩) lxV).trans (Bx.cell 2), (h.cell (p := ⟨w1.heap.size + 1, 0, none⟩) lyV).trans (By.cell 0), (h.cell (p := ⟨w1.heap.size + 1, 1, none⟩) lyV).trans (By.cell 1), (h.cell (p := ⟨w2.heap.size, 0, none⟩) lzV).trans (Bz.cell 0), (h.cell (p := ⟨w2.heap.size, 1, none⟩) lzV).trans (Bz.cell 1)⟩
  clear hV
  go_region_held3 (fun X => X.cell? ⟨w.heap.size, 0, none⟩ = some (.int .i64 W) ∧ X.cell? ⟨w.heap.size, 1, none⟩ = some (.int .i64 H) ∧ X.cell? ⟨w.heap.size, 2, none⟩ = some (.slice A n c) ∧ X.cell? ⟨w1.heap.size, 0, none⟩ = some (.int .i64 W) ∧ X.cell? ⟨w1.heap.size, 1, none⟩ = some (.int .i64 H) ∧ X.cell? ⟨w1.heap.size, 2, none⟩ = some (.slice (some ⟨g, 0, none⟩) n n) ∧ X.cell? ⟨w1.heap.size + 1, 0, none⟩ = some (.int .i64 0) ∧ X.cell? ⟨w1.heap.size + 1, 1, none⟩ = some (.int .i64 0) ∧ X.cell? ⟨w2.heap.size, 0, none⟩ = some (.int .i64 0) ∧ X.cell? ⟨w2.heap.size, 1, none⟩ = some (.int .i64 0))
    (exact HSV.out _ (by repeat (first | (with_reducible assumption) | (with_reducible exact Below.refl _ _) | (with_reducible refine Below.drew ?_) | (with_reducible refine below_drewN ?_ _) | ((with_reducible refine Below.alloc ?_ ?_ _); rotate_left; (focus (first | exact Nat.le_refl _ | omega | (simp; done) | (simp; omega) | (simp at *; omega)))) | ((with_reducible refine Below.setCell ?_ ?_ _); rotate_left; (focus (first | exact Nat.le_refl _ | omega | (simp; done) | (simp; omega) | (simp at *; omega)))))))
    (first
      | (go_at_call 55
         refine (Smeared_ok A n c W H p _ HI.out hp (HR.out _ (by repeat (first | (with_reducible assumption) | (with_reducible exact Below.refl _ _) | (with_reducible refine Below.drew ?_) | (with_reducible refine below_drewN ?_ _) | ((with_reducible refine Below.alloc ?_ ?_ _); rotate_left; (focus (first | exact Nat.le_refl _ | omega | (simp; done) | (simp; omega) | (simp at *; omega)))) | ((with_reducible refine Below.setCell ?_ ?_ _); rotate_left; (focus (first | exact Nat.le_refl _ | omega | (simp; done) | (simp; omega) | (simp at *; omega)))))))).mono ?_
         rintro e wa ⟨ga, rfl, hga, hrowa, hbwa⟩
         have R2 := rd_later (Rd.of_row hrowa)
         clear hrowa
         have hzwa := hbwa.size
         try simp at hzwa
         have kwa : Below w.heap.size w wa := Below.trans (by repeat (first | (with_reducible assumption) | (with_reducible exact Below.refl _ _) | (with_reducible refine Below.drew ?_) | (with_reducible refine below_drewN ?_ _) | ((with_reducible refine Below.alloc ?_ ?_ _); rotate_left; (focus (first | exact Nat.le_refl _ | omega | (simp; done) | (simp; omega) | (simp at *; omega)))) | ((with_reducible refine Below.setCell ?_ ?_ _); rotate_left; (focus (first | exact Nat.le_refl _ | omega | (simp; done) | (simp; omega) | (simp at *; omega)))))) (hbwa.mono (by (focus (first | exact Nat.le_refl _ | omega | (simp; done) | (simp; omega) | (simp at *; omega)))))
         have kzwa := kwa.size
         have kVwa : Below V.heap.size V wa := Below.trans (by repeat (first | (with_reducible assumption) | (with_reducible exact Below.refl _ _) | (with_reducible refine Below.drew ?_) | (with_reducible refine below_drewN ?_ _) | ((with_reducible refine Below.alloc ?_ ?_ _); rotate_left; (focus (first | exact Nat.le_refl _ | omega | (simp; done) | (simp; omega) | (simp at *; omega)))) | ((with_reducible refine Below.setCell ?_ ?_ _); rotate_left; (focus (first | exact Nat.le_refl _ | omega | (simp; done) | (simp; omega) | (simp at *; omega)))))) (hbwa.mono (by (focus (first | exact Nat.le_refl _ | omega | (simp; done) | (simp; omega) | (simp at *; omega)))))
         have kw1wa : Below w1.heap.size w1 wa := Below.trans (by repeat (first | (with_reducible assumption) | (with_reducible exact Below.refl _ _) | (with_reducible refine Below.drew ?_) | (with_reducible refine below_drewN ?_ _) | ((with_reducible refine Below.alloc ?_ ?_ _); rotate_left; (focus (first | exact Nat.le_refl _ | omega | (simp; done) | (simp; omega) | (simp at *; omega)))) | ((with_reducible refine Below.setCell ?_ ?_ _); rotate_left; (focus (first | exact Nat.le_refl _ | omega | (simp; done) | (simp; omega) | (simp at *; omega)))))) (hbwa.mono (by (focus (first | exact Nat.le_refl _ | omega | (simp; done) | (simp; omega) | (simp at *; omega))))))
      | (go_at_call 53
         refine (answer_ok _ _ n _ _ _ _ _ _ (R1.out _ (by repeat (first | (with_reducible assumption) | (with_reducible exact Below.refl _ _) | (with_reducible refine Below.drew ?_) | (with_reducible refine below_drewN ?_ _) | ((with_reducible refine Below.alloc ?_ ?_ _); rotate_left; (focus (first | exact Nat.le_refl _ | omega | (simp; done) | (simp; omega) | (simp at *; omega)))) | ((with_reducible refine Below.setCell ?_ ?_ _); rotate_left; (focus (first | exact Nat.le_refl _ | omega | (simp; done) | (simp; omega) | (simp at *; omega))))))) (R2.out _ (by repeat (first | (with_reducible assumption) | (with_reducible exact Below.refl _ _) | (with_reducible refine Below.drew ?_) | (with_reducible refine below_drewN ?_ _) | ((with_reducible refine Below.alloc ?_ ?_ _); rotate_left; (focus (first | exact Nat.le_refl _ | omega | (simp; done) | (simp; omega) | (simp at *; omega)))) | ((with_reducible refine Below.setCell ?_ ?_ _); rotate_left; (focus (first | exact Nat.le_refl _ | omega | (simp; done) | (simp; omega) | (simp at *; omega)))))))).mono ?_
         rintro e wb ⟨rfl, hbwb⟩
         have hzwb := hbwb.size
         try simp at hzwb
         have kwb : Below w.heap.size w wb := Below.trans (by repeat (first | (with_reducible assumption) | (with_reducible exact Below.refl _ _) | (with_reducible refine Below.drew ?_) | (with_reducible refine below_drewN ?_ _) | ((with_reducible refine Below.alloc ?_ ?_ _); rotate_left; (focus (first | exact Nat.le_refl _ | omega | (simp; done) | (simp; omega) | (simp at *; omega)))) | ((with_reducible refine Below.setCell ?_ ?_ _); rotate_left; (focus (first | exact Nat.le_refl _ | omega | (simp; done) | (simp; omega) | (simp at *; omega)))))) (hbwb.mono (by (focus (first | exact Nat.le_refl _ | omega | (simp; done) | (simp; omega) | (simp at *; omega)))))
         have kzwb := kwb.size
         have kVwb : Below V.heap.size V wb := Below.trans (by repeat (first | (with_reducible assumption) | (with_reducible exact Below.refl _ _) | (with_reducible refine Below.drew ?_) | (with_reducible refine below_drewN ?_ _) | ((with_reducible refine Below.alloc ?_ ?_ _); rotate_left; (focus (first | exact Nat.le_refl _ | omega | (simp; done) | (simp; omega) | (simp at *; omega)))) | ((with_reducible refine Below.setCell ?_ ?_ _); rotate_left; (focus (first | exact Nat.le_refl _ | omega | (simp; done) | (simp; omega) | (simp at *; omega)))))) (hbwb.mono (by (focus (first | exact Nat.le_refl _ | omega | (simp; done) | (simp; omega) | (simp at *; omega)))))
         have kw1wb : Below w1.heap.size w1 wb := Below.trans (by repeat (first | (with_reducible assumption) | (with_reducible exact Below.refl _ _) | (with_reducible refine Below.drew ?_) | (with_reducible refine below_drewN ?_ _) | ((with_reducible refine Below.alloc ?_ ?_ _); rotate_left; (focus (first | exact Nat.le_refl _ | omega | (simp; done) | (simp; omega) | (simp at *; omega)))) | ((with_reducible refine Below.setCell ?_ ?_ _); rotate_left; (focus (first | exact Nat.le_refl _ | omega | (simp; done) | (simp; omega) | (simp at *; omega)))))) (hbwb.mono (by (focus (first | exact Nat.le_refl _ | omega | (simp; done) | (simp; omega) | (simp at *; omega))))))
      | (go_at_call 54
         refine (bent_any _).mono ?_
         rintro e wc ⟨rfl, hbwc⟩
         have hzwc := hbwc.size
         try simp at hzwc
         have kwc : Below w.heap.size w wc := Below.trans (by repeat (first | (with_reducible assumption) | (with_reducible exact Below.refl _ _) | (with_reducible refine Below.drew ?_) | (with_reducible refine below_drewN ?_ _) | ((with_reducible refine Below.alloc ?_ ?_ _); rotate_left; (focus (first | exact Nat.le_refl _ | omega | (simp; done) | (simp; omega) | (simp at *; omega)))) | ((with_reducible refine Below.setCell ?_ ?_ _); rotate_left; (focus (first | exact Nat.le_refl _ | omega | (simp; done) | (simp; omega) | (simp at *; omega)))))) (hbwc.mono (by (focus (first | exact Nat.le_refl _ | omega | (simp; done) | (simp; omega) | (simp at *; omega)))))
         have kzwc := kwc.size
         have kVwc : Below V.heap.size V wc := Below.trans (by repeat (first | (with_reducible assumption) | (with_reducible exact Below.refl _ _) | (with_reducible refine Below.drew ?_) | (with_reducible refine below_drewN ?_ _) | ((with_reducible refine Below.alloc ?_ ?_ _); rotate_left; (focus (first | exact Nat.le_refl _ | omega | (simp; done) | (simp; omega) | (simp at *; omega)))) | ((with_reducible refine Below.setCell ?_ ?_ _); rotate_left; (focus (first | exact Nat.le_refl _ | omega | (simp; done) | (simp; omega) | (simp at *; omega)))))) (hbwc.mono (by (focus (first | exact Nat.le_refl _ | omega | (simp; done) | (simp; omega) | (simp at *; omega)))))
         have kw1wc : Below w1.heap.size w1 wc := Below.trans (by repeat (first | (with_reducible assumption) | (with_reducible exact Below.refl _ _) | (with_reducible refine Below.drew ?_) | (with_reducible refine below_drewN ?_ _) | ((with_reducible refine Below.alloc ?_ ?_ _); rotate_left; (focus (first | exact Nat.le_refl _ | omega | (simp; done) | (simp; omega) | (simp at *; omega)))) | ((with_reducible refine Below.setCell ?_ ?_ _); rotate_left; (focus (first | exact Nat.le_refl _ | omega | (simp; done) | (simp; omega) | (simp at *; omega)))))) (hbwc.mono (by (focus (first | exact Nat.le_refl _ | omega | (simp; done) | (simp; omega) | (simp at *; omega)))))))
  go_wp2
  go_ret
  exact ⟨rfl, (by repeat (first | (with_reducible assumption) | (with_reducible exact Below.refl _ _) | (with_reducible refine Below.drew ?_) | (with_reducible refine below_drewN ?_ _) | ((with_reducible refine Below.alloc ?_ ?_ _); rotate_left; (focus (first | exact Nat.le_refl _ | omega | (simp; done) | (simp; omega) | (simp at *; omega)))) | ((with_reducible refine Below.setCell ?_ ?_ _); rotate_left; (focus (first | exact Nat.le_refl _ | omega | (simp; done) | (simp; omega) | (simp at *; omega))))))⟩

/-- The law, whatever the arguments. -/
theorem DistortSmearMatchesSpec_walk {w : World} (W H : Int) (A : Option Addr) (n c : Nat) (p : Nat → Int) (_hn : n ≤ maxLen) (hp : Byt p) (hr : RdB w A n p) :
    Calls Try.prog 11 #[iv W H A n c] w fun e w' => e = .returned (.bool true) ∧ Below w.heap.size w w' := by
  rcases imgF_cases W H n with hi | hi
  · exact LSmear_ok A n c W H p w hi hp hr
  · exact LSmear_bad A n c W H w hi

end Go.Proofs.Ytpdjiokmafoppaa
