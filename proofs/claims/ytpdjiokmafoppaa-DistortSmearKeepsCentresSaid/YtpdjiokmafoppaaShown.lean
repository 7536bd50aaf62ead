/- The closed check 'drawn' of the laws on drawings returns true. No conditions. -/
import Derived.Test.YtpdjiokmafoppaaDrawC
import Derived.Test.YtpdjiokmafoppaaDrawn
namespace Go.Proofs.Ytpdjiokmafoppaa
open Go.RowKit

theorem grid85 : GridOk 2 85 58 4930 (fun _ => 0) := ⟨.inl rfl, rfl, rfl, rfl, fun _ _ => by decide⟩
theorem Draw85 (A : Option Addr) (w : World) (hr : RdB w A 4930 (fun _ => 0)) :
    Calls Try.prog 25 #[gv 2 85 58 A 4930 4930, .int .i64 3, .int .i64 2, .int .i64 2] w fun e w' => ∃ g, e = .returned (.tuple #[iv 178 259 (some ⟨g, 0, none⟩) 46102 46102, fv 0 0]) ∧ w.heap.size ≤ g ∧
      w'.cell? ⟨g, 0, none⟩ = some (.int .u8 255) ∧ Below w.heap.size w w' := by
  refine (Draw_ok A 4930 4930 46102 2 85 58 3 2 2 (fun _ => 0) w grid85 (fun _ => ⟨Int.le_refl 0, (by decide : (0 : Int) ≤ 255)⟩) hr (by decide) (by decide) (by decide) rfl).mono ?_
  rintro e w' ⟨g, rfl, hg, hrow, hb⟩
  refine ⟨g, rfl, hg, ?_, hb⟩
  rw [hrow.cell (i := 0) (by omega), dpx_out (by left; decide)]

set_option maxHeartbeats 2000000 in
set_option maxRecDepth 100000 in
theorem drawn_any (w : World) : Calls Try.prog 30 #[] w fun e w' => e = .returned (.bool true) ∧ Below w.heap.size w w' := by
  obtain ⟨O, hO⟩ : ∃ O : Obj, O = .cells (madeCells #[.int .u8 0] 4930) 5 := ⟨_, rfl⟩
  have hmk : ∀ w, (Instr.makeSlice 22 (.int .i64 4930) (.int .i64 4930)).run Try.prog w = .ok (.slice (some ⟨w.heap.size, 0, none⟩) 4930 4930) (w.alloc O) := by
    rw [hO]; exact run_make_row' (P := Try.prog) 22 5 (.int .u8 0) 1 Try.underlying22 Try.info5 rfl .i64 .i64 4930 (by omega) (by omega)
  have HR : Hid (RdB (w.alloc O) (some ⟨w.heap.size, 0, none⟩) 4930 (fun _ => 0)) := Lib.hid (by rw [hO]; exact Rd.of_row (made_at w (.int .u8 0) 4930 5 rfl))
  clear hO
  go_enter Try.func30, Try.ntmps30
  go_wp2_with fail
  refine (Draw85 _ _ HR.out).mono ?_
  rintro e w1 ⟨g, rfl, hg, hc, hbw1⟩
  have hzw1 := hbw1.size
  try simp at hzw1
  have kw1 : Below w.heap.size w w1 := Below.trans (by repeat (first | (with_reducible assumption) | (with_reducible exact Below.refl _ _) | (with_reducible refine Below.drew ?_) | (with_reducible refine below_drewN ?_ _) | ((with_reducible refine Below.alloc ?_ ?_ _); rotate_left; (focus (first | exact Nat.le_refl _ | omega | (simp; done) | (simp; omega) | (simp at *; omega)))) | ((with_reducible refine Below.setCell ?_ ?_ _); rotate_left; (focus (first | exact Nat.le_refl _ | omega | (simp; done) | (simp; omega) | (simp at *; omega)))))) (hbw1.mono (by (focus (first | exact Nat.le_refl _ | omega | (simp; done) | (simp; omega) | (simp at *; omega)))))
  have kzw1 := kw1.size
  have hgl := World.block_lt_of_cell? _ _ hc
  go_wp2_with fail
  refine (rValidate_any _ _ _ _ _ _).mono ?_
  rintro e w2 ⟨rfl, hbw2⟩
  obtain ⟨hcw2, hfw2⟩ := bcell hbw2
  have hzw2 := hbw2.size
  try simp at hzw2
  have kw2 : Below w.heap.size w w2 := Below.trans (by repeat (first | (with_reducible assumption) | (with_reducible exact Below.refl _ _) | (with_reducible refine Below.drew ?_) | (with_reducible refine below_drewN ?_ _) | ((with_reducible refine Below.alloc ?_ ?_ _); rotate_left; (focus (first | exact Nat.le_refl _ | omega | (simp; done) | (simp; omega) | (simp at *; omega)))) | ((with_reducible refine Below.setCell ?_ ?_ _); rotate_left; (focus (first | exact Nat.le_refl _ | omega | (simp; done) | (simp; omega) | (simp at *; omega)))))) (hbw2.mono (by (focus (first | exact Nat.le_refl _ | omega | (simp; done) | (simp; omega) | (simp at *; omega)))))
  have kzw2 := kw2.size
  have lw2w10 : w1.heap.size < w2.heap.size := by omega
  have lw2w11 : w1.heap.size + 1 < w2.heap.size := by omega
  go_wp2_with fail
  refine (At_any _ _ _).mono ?_
  rintro e w3 ⟨rfl, hbw3⟩
  obtain ⟨hcw3, hfw3⟩ := bcell hbw3
  have hzw3 := hbw3.size
  try simp at hzw3
  have kw3 : Below w.heap.size w w3 := Below.trans (by repeat (first | (with_reducible assumption) | (with_reducible exact Below.refl _ _) | (with_reducible refine Below.drew ?_) | (with_reducible refine below_drewN ?_ _) | ((with_reducible refine Below.alloc ?_ ?_ _); rotate_left; (focus (first | exact Nat.le_refl _ | omega | (simp; done) | (simp; omega) | (simp at *; omega)))) | ((with_reducible refine Below.setCell ?_ ?_ _); rotate_left; (focus (first | exact Nat.le_refl _ | omega | (simp; done) | (simp; omega) | (simp at *; omega)))))) (hbw3.mono (by (focus (first | exact Nat.le_refl _ | omega | (simp; done) | (simp; omega) | (simp at *; omega)))))
  have kzw3 := kw3.size
  have lw3w10 : w1.heap.size < w3.heap.size := by omega
  have lw3w11 : w1.heap.size + 1 < w3.heap.size := by omega
  go_wp2
  go_ret
  exact ⟨rfl, (by repeat (first | (with_reducible assumption) | (with_reducible exact Below.refl _ _) | (with_reducible refine Below.drew ?_) | (with_reducible refine below_drewN ?_ _) | ((with_reducible refine Below.alloc ?_ ?_ _); rotate_left; (focus (first | exact Nat.le_refl _ | omega | (simp; done) | (simp; omega) | (simp at *; omega)))) | ((with_reducible refine Below.setCell ?_ ?_ _); rotate_left; (focus (first | exact Nat.le_refl _ | omega | (simp; done) | (simp; omega) | (simp at *; omega))))))⟩

end Go.Proofs.Ytpdjiokmafoppaa
