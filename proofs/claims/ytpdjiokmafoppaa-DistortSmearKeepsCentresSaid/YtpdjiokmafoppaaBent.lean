/- law6.bent: it returns true. No conditions. -/
import Derived.Test.YtpdjiokmafoppaaAnswer
import Derived.Test.YtpdjiokmafoppaaSmeared
namespace Go.Proofs.Ytpdjiokmafoppaa
open Go.RowKit

/-- The pixels 1, 2; the numbers 0, 1. -/
def f12 (i : Nat) : Int := if i = 0 then 1 else 2
def f01 (i : Nat) : Int := if i = 0 then 0 else 1
theorem img12 : ImgOk 2 1 2 := ⟨by decide, by decide, by decide, by decide, by decide⟩
theorem img0 : ImgOk 1 1 1 := ⟨by decide, by decide, by decide, by decide, by decide⟩
theorem row12 (w : World) {g : Nat} (h : g = w.heap.size) : (w.alloc (.cells #[.int .u8 1, .int .u8 2] 5)).rowIs g 5 2 (fun i => .int .u8 (f12 i)) := by
  subst h
  exact World.rowIs_alloc w #[.int .u8 1, .int .u8 2] 5 (fun i => .int .u8 (f12 i)) (fun i hi => by
    have : i = 0 ∨ i = 1 := by simp at hi; omega
    rcases this with rfl | rfl <;> rfl)
theorem row01 (w : World) {g : Nat} (h : g = w.heap.size) : (w.alloc (.cells #[.int .i64 0, .int .i64 1] 3)).rowIs g 3 2 (fun i => .int .i64 (f01 i)) := by
  subst h
  exact World.rowIs_alloc w #[.int .i64 0, .int .i64 1] 3 (fun i => .int .i64 (f01 i)) (fun i hi => by
    have : i = 0 ∨ i = 1 := by simp at hi; omega
    rcases this with rfl | rfl <;> rfl)
theorem row0 (w : World) {g : Nat} (h : g = w.heap.size) : (w.alloc (.cells #[.int .u8 0] 5)).rowIs g 5 1 (fun i => .int .u8 ((fun _ => 0) i)) := by
  subst h
  exact World.rowIs_alloc w #[.int .u8 0] 5 (fun i => .int .u8 ((fun _ => 0) i)) (fun i hi => by
    have : i = 0 := by simp at hi; omega
    subst this; rfl)

theorem f12_byt : Byt f12 := fun i => by unfold f12; split <;> decide
def f1552 (i : Nat) : Int := if i = 0 then 1 else if i = 3 then 2 else 255
theorem f1552_byt : Byt f1552 := fun i => by unfold f1552; split; decide; split <;> decide
theorem row1552 (w : World) {g : Nat} (h : g = w.heap.size) : (w.alloc (.cells #[.int .u8 1, .int .u8 255, .int .u8 255, .int .u8 2] 5)).rowIs g 5 4 (fun i => .int .u8 (f1552 i)) := by
  subst h
  exact World.rowIs_alloc w #[.int .u8 1, .int .u8 255, .int .u8 255, .int .u8 2] 5 (fun i => .int .u8 (f1552 i)) (fun i hi => by
    have : i = 0 ∨ i = 1 ∨ i = 2 ∨ i = 3 := by simp at hi; omega
    rcases this with rfl | rfl | rfl | rfl <;> rfl)
theorem row226 (w : World) {g : Nat} (h : g = w.heap.size) : (w.alloc (.cells #[.int .u8 226] 5)).rowIs g 5 1 (fun i => .int .u8 ((fun _ => 226) i)) := by
  subst h
  exact World.rowIs_alloc w #[.int .u8 226] 5 (fun i => .int .u8 ((fun _ => 226) i)) (fun i hi => by
    have : i = 0 := by simp at hi; omega
    subst this; rfl)

theorem be1 : sameB 2 (tuF 2 1 1 f12) 2 f12 = true := (sameB_iff (tuF_byt f12_byt) f12_byt).2 ⟨rfl, fun i hi => by
  have : i = 0 ∨ i = 1 := by omega
  rcases this with rfl | rfl <;> decide⟩
theorem be2 : sameB 4 (scF 2 1 f12 f01 2) 4 f1552 = true := (sameB_iff (mk2_byt fun x y => px_byt f12_byt _ _) f1552_byt).2 ⟨rfl, fun i hi => by
  have : i = 0 ∨ i = 1 ∨ i = 2 ∨ i = 3 := by omega
  rcases this with rfl | rfl | rfl | rfl <;> decide⟩
theorem be3 : sameB 1 (smF 1 1 (fun _ => 0)) 1 (fun _ => 226) = true := (sameB_iff (smF_byt fun _ => by simp) (fun _ => by simp)).2 ⟨rfl, fun i hi => by
  have : i = 0 := by omega
  subst this; decide⟩

set_option maxHeartbeats 4000000 in
set_option maxRecDepth 100000 in
theorem bent_any (w : World) : Calls Try.prog 54 #[] w fun e w' => e = .returned (.bool true) ∧ Below w.heap.size w w' := by
  have HI := Lib.hid img12
  go_enter Try.func54, Try.ntmps54
  go_wp2_with fail
  have hT := Turn_ok (some ⟨w.heap.size, 0, none⟩) 2 2 2 1 1 f12 _ img12 (Rd.of_row ((row12 w rfl).alloc (.cells #[.int .i64 2, .int .i64 1, .slice (some ⟨w.heap.size, 0, none⟩) 2 2] 26))) (by decide)
  rw [show tuW 2 1 1 = 1 from rfl, show tuH 2 1 1 = 2 from rfl] at hT
  refine hT.mono ?_
  rintro e w1 ⟨g1, rfl, hg1, hrow1, hbw1⟩
  have hl1 := hrow1.lt
  have R1 := rd_later (Rd.of_row hrow1)
  clear hrow1
  have P1 := rd_later (Rd.below (Rd.of_row ((row12 w rfl).alloc (.cells #[.int .i64 2, .int .i64 1, .slice (some ⟨w.heap.size, 0, none⟩) 2 2] 26))) hbw1)
  have hzw1 := hbw1.size
  try simp at hzw1
  have kw1 : Below w.heap.size w w1 := Below.trans (by repeat (first | (with_reducible assumption) | (with_reducible exact Below.refl _ _) | (with_reducible refine Below.drew ?_) | (with_reducible refine below_drewN ?_ _) | ((with_reducible refine Below.alloc ?_ ?_ _); rotate_left; (focus (first | exact Nat.le_refl _ | omega | (simp; done) | (simp; omega) | (simp at *; omega)))) | ((with_reducible refine Below.setCell ?_ ?_ _); rotate_left; (focus (first | exact Nat.le_refl _ | omega | (simp; done) | (simp; omega) | (simp at *; omega)))))) (hbw1.mono (by (focus (first | exact Nat.le_refl _ | omega | (simp; done) | (simp; omega) | (simp at *; omega)))))
  have kzw1 := kw1.size
  have Bin : Blk w1 (w.heap.size + 1) 26 #[.int .i64 2, .int .i64 1, .slice (some ⟨w.heap.size, 0, none⟩) 2 2] := Blk.below (by repeat (first | (with_reducible assumption) | (with_reducible exact Blk.new _ _ _) | ((with_reducible refine Blk.new_at _ _ _ ?_); (focus (first | (simp; done) | omega))) | (with_reducible refine Blk.drew ?_) | (with_reducible refine Blk.drewN ?_ _) | (with_reducible refine Blk.alloc ?_ _) | ((with_reducible refine Blk.far ?_ ?_ _); rotate_left; (focus (first | (simp; done) | (simp; omega) | omega))))) hbw1 (by (focus (first | omega | (simp; done) | (simp; omega) | (simp at *; omega))))
  try clear ci fi
  try clear Bi
  have Bi := Bin
  clear Bin
  have ci := Bi.cell
  have fi := Bi.frozen
  have liw1 := Bi.lt
  have l1a : w.heap.size < w1.heap.size := by omega
  go_wp2_with fail
  have HQ := rd_later (Rd.of_row (row01 ((w1.alloc (.cells #[.int .i64 1, .int .i64 2, .slice (some ⟨g1, 0, none⟩) 2 2] 26)).alloc (.cells #[.int .i64 0, .int .i64 0] 28)) rfl))
  simp at HQ
  refine (ShiftColumns_do (some ⟨w.heap.size, 0, none⟩) (some ⟨w1.heap.size + 1 + 1, 0, none⟩) 2 2 2 2 4 2 1 2 f12 f01 _ img12 (P1.out _ (by repeat (first | (with_reducible assumption) | (with_reducible exact Below.refl _ _) | (with_reducible refine Below.drew ?_) | (with_reducible refine below_drewN ?_ _) | ((with_reducible refine Below.alloc ?_ ?_ _); rotate_left; (focus (first | exact Nat.le_refl _ | omega | (simp; done) | (simp; omega) | (simp at *; omega)))) | ((with_reducible refine Below.setCell ?_ ?_ _); rotate_left; (focus (first | exact Nat.le_refl _ | omega | (simp; done) | (simp; omega) | (simp at *; omega))))))) (HQ.out _ (Below.refl _ _)) (by decide) (by decide) (by decide) (fun i _ => by unfold f01; split <;> decide) (by decide) (by decide) (by decide)).mono ?_
  rintro e w2 ⟨g2, rfl, hg2, hrow2, hbw2⟩
  have hl2 := hrow2.lt
  have R2 := rd_later (Rd.of_row hrow2)
  clear hrow2
  have hzw2 := hbw2.size
  try simp at hzw2
  have kw2 : Below w.heap.size w w2 := Below.trans (by repeat (first | (with_reducible assumption) | (with_reducible exact Below.refl _ _) | (with_reducible refine Below.drew ?_) | (with_reducible refine below_drewN ?_ _) | ((with_reducible refine Below.alloc ?_ ?_ _); rotate_left; (focus (first | exact Nat.le_refl _ | omega | (simp; done) | (simp; omega) | (simp at *; omega)))) | ((with_reducible refine Below.setCell ?_ ?_ _); rotate_left; (focus (first | exact Nat.le_refl _ | omega | (simp; done) | (simp; omega) | (simp at *; omega)))))) (hbw2.mono (by (focus (first | exact Nat.le_refl _ | omega | (simp; done) | (simp; omega) | (simp at *; omega)))))
  have kzw2 := kw2.size
  have k12 : Below w1.heap.size w1 w2 := Below.trans (by repeat (first | (with_reducible assumption) | (with_reducible exact Below.refl _ _) | (with_reducible refine Below.drew ?_) | (with_reducible refine below_drewN ?_ _) | ((with_reducible refine Below.alloc ?_ ?_ _); rotate_left; (focus (first | exact Nat.le_refl _ | omega | (simp; done) | (simp; omega) | (simp at *; omega)))) | ((with_reducible refine Below.setCell ?_ ?_ _); rotate_left; (focus (first | exact Nat.le_refl _ | omega | (simp; done) | (simp; omega) | (simp at *; omega)))))) (hbw2.mono (by (focus (first | exact Nat.le_refl _ | omega | (simp; done) | (simp; omega) | (simp at *; omega)))))
  have l2a : w1.heap.size < w2.heap.size := by omega
  have Bxn : Blk w2 (w1.heap.size) 26 #[.int .i64 1, .int .i64 2, .slice (some ⟨g1, 0, none⟩) 2 2] := Blk.below (by repeat (first | (with_reducible assumption) | (with_reducible exact Blk.new _ _ _) | ((with_reducible refine Blk.new_at _ _ _ ?_); (focus (first | (simp; done) | omega))) | (with_reducible refine Blk.drew ?_) | (with_reducible refine Blk.drewN ?_ _) | (with_reducible refine Blk.alloc ?_ _) | ((with_reducible refine Blk.far ?_ ?_ _); rotate_left; (focus (first | (simp; done) | (simp; omega) | omega))))) hbw2 (by (focus (first | omega | (simp; done) | (simp; omega) | (simp at *; omega))))
  try clear cx fx
  try clear Bx
  have Bx := Bxn
  clear Bxn
  have cx := Bx.cell
  have fx := Bx.frozen
  have lxw2 := Bx.lt
  have Byn : Blk w2 (w1.heap.size + 1) 28 #[.int .i64 0, .int .i64 0] := Blk.below (by repeat (first | (with_reducible assumption) | (with_reducible exact Blk.new _ _ _) | ((with_reducible refine Blk.new_at _ _ _ ?_); (focus (first | (simp; done) | omega))) | (with_reducible refine Blk.drew ?_) | (with_reducible refine Blk.drewN ?_ _) | (with_reducible refine Blk.alloc ?_ _) | ((with_reducible refine Blk.far ?_ ?_ _); rotate_left; (focus (first | (simp; done) | (simp; omega) | omega))))) hbw2 (by (focus (first | omega | (simp; done) | (simp; omega) | (simp at *; omega))))
  try clear cy fy
  try clear By
  have By := Byn
  clear Byn
  have cy := By.cell
  have fy := By.frozen
  have lyw2 := By.lt
  go_wp2_with fail
  refine (Smear_ok _ 1 1 1 1 (fun _ => 0) _ img0 (fun _ => by simp) (Rd.of_row (row0 _ (by simp)))).mono ?_
  rintro e w3 ⟨g3, rfl, hg3, hrow3, hbw3⟩
  have hl3 := hrow3.lt
  have R3 := rd_later (Rd.of_row hrow3)
  clear hrow3
  have hzw3 := hbw3.size
  try simp at hzw3
  have kw3 : Below w.heap.size w w3 := Below.trans (by repeat (first | (with_reducible assumption) | (with_reducible exact Below.refl _ _) | (with_reducible refine Below.drew ?_) | (with_reducible refine below_drewN ?_ _) | ((with_reducible refine Below.alloc ?_ ?_ _); rotate_left; (focus (first | exact Nat.le_refl _ | omega | (simp; done) | (simp; omega) | (simp at *; omega)))) | ((with_reducible refine Below.setCell ?_ ?_ _); rotate_left; (focus (first | exact Nat.le_refl _ | omega | (simp; done) | (simp; omega) | (simp at *; omega)))))) (hbw3.mono (by (focus (first | exact Nat.le_refl _ | omega | (simp; done) | (simp; omega) | (simp at *; omega)))))
  have kzw3 := kw3.size
  have k23 : Below w2.heap.size w2 w3 := Below.trans (by repeat (first | (with_reducible assumption) | (with_reducible exact Below.refl _ _) | (with_reducible refine Below.drew ?_) | (with_reducible refine below_drewN ?_ _) | ((with_reducible refine Below.alloc ?_ ?_ _); rotate_left; (focus (first | exact Nat.le_refl _ | omega | (simp; done) | (simp; omega) | (simp at *; omega)))) | ((with_reducible refine Below.setCell ?_ ?_ _); rotate_left; (focus (first | exact Nat.le_refl _ | omega | (simp; done) | (simp; omega) | (simp at *; omega)))))) (hbw3.mono (by (focus (first | exact Nat.le_refl _ | omega | (simp; done) | (simp; omega) | (simp at *; omega)))))
  have l3a : w2.heap.size < w3.heap.size := by omega
  have l3b : w1.heap.size < w3.heap.size := by omega
  have Bxn : Blk w3 (w1.heap.size) 26 #[.int .i64 1, .int .i64 2, .slice (some ⟨g1, 0, none⟩) 2 2] := Blk.below (by repeat (first | (with_reducible assumption) | (with_reducible exact Blk.new _ _ _) | ((with_reducible refine Blk.new_at _ _ _ ?_); (focus (first | (simp; done) | omega))) | (with_reducible refine Blk.drew ?_) | (with_reducible refine Blk.drewN ?_ _) | (with_reducible refine Blk.alloc ?_ _) | ((with_reducible refine Blk.far ?_ ?_ _); rotate_left; (focus (first | (simp; done) | (simp; omega) | omega))))) hbw3 (by (focus (first | omega | (simp; done) | (simp; omega) | (simp at *; omega))))
  try clear cx fx
  try clear Bx
  have Bx := Bxn
  clear Bxn
  have cx := Bx.cell
  have fx := Bx.frozen
  have lxw3 := Bx.lt
  have Byn : Blk w3 (w1.heap.size + 1) 28 #[.int .i64 0, .int .i64 0] := Blk.below (by repeat (first | (with_reducible assumption) | (with_reducible exact Blk.new _ _ _) | ((with_reducible refine Blk.new_at _ _ _ ?_); (focus (first | (simp; done) | omega))) | (with_reducible refine Blk.drew ?_) | (with_reducible refine Blk.drewN ?_ _) | (with_reducible refine Blk.alloc ?_ _) | ((with_reducible refine Blk.far ?_ ?_ _); rotate_left; (focus (first | (simp; done) | (simp; omega) | omega))))) hbw3 (by (focus (first | omega | (simp; done) | (simp; omega) | (simp at *; omega))))
  try clear cy fy
  try clear By
  have By := Byn
  clear Byn
  have cy := By.cell
  have fy := By.frozen
  have lyw3 := By.lt
  have Bzn : Blk w3 (w2.heap.size) 26 #[.int .i64 2, .int .i64 2, .slice (some ⟨g2, 0, none⟩) 4 4] := Blk.below (by repeat (first | (with_reducible assumption) | (with_reducible exact Blk.new _ _ _) | ((with_reducible refine Blk.new_at _ _ _ ?_); (focus (first | (simp; done) | omega))) | (with_reducible refine Blk.drew ?_) | (with_reducible refine Blk.drewN ?_ _) | (with_reducible refine Blk.alloc ?_ _) | ((with_reducible refine Blk.far ?_ ?_ _); rotate_left; (focus (first | (simp; done) | (simp; omega) | omega))))) hbw3 (by (focus (first | omega | (simp; done) | (simp; omega) | (simp at *; omega))))
  try clear cz fz
  try clear Bz
  have Bz := Bzn
  clear Bzn
  have cz := Bz.cell
  have fz := Bz.frozen
  have lzw3 := Bz.lt
  have Bun : Blk w3 (w2.heap.size + 1) 28 #[.int .i64 0, .int .i64 0] := Blk.below (by repeat (first | (with_reducible assumption) | (with_reducible exact Blk.new _ _ _) | ((with_reducible refine Blk.new_at _ _ _ ?_); (focus (first | (simp; done) | omega))) | (with_reducible refine Blk.drew ?_) | (with_reducible refine Blk.drewN ?_ _) | (with_reducible refine Blk.alloc ?_ _) | ((with_reducible refine Blk.far ?_ ?_ _); rotate_left; (focus (first | (simp; done) | (simp; omega) | omega))))) hbw3 (by (focus (first | omega | (simp; done) | (simp; omega) | (simp at *; omega))))
  try clear cu fu
  try clear Bu
  have Bu := Bun
  clear Bun
  have cu := Bu.cell
  have fu := Bu.frozen
  have luw3 := Bu.lt
  go_wp2_with fail
  have hC := fun w => Compose_ok 1 4 (by decide) (by decide) w
  rw [show coF 1 4 = 7 from rfl] at hC
  refine (hC _).mono ?_
  rintro e w4 ⟨rfl, hbw4⟩
  have hzw4 := hbw4.size
  try simp at hzw4
  have kw4 : Below w.heap.size w w4 := Below.trans (by repeat (first | (with_reducible assumption) | (with_reducible exact Below.refl _ _) | (with_reducible refine Below.drew ?_) | (with_reducible refine below_drewN ?_ _) | ((with_reducible refine Below.alloc ?_ ?_ _); rotate_left; (focus (first | exact Nat.le_refl _ | omega | (simp; done) | (simp; omega) | (simp at *; omega)))) | ((with_reducible refine Below.setCell ?_ ?_ _); rotate_left; (focus (first | exact Nat.le_refl _ | omega | (simp; done) | (simp; omega) | (simp at *; omega)))))) (hbw4.mono (by (focus (first | exact Nat.le_refl _ | omega | (simp; done) | (simp; omega) | (simp at *; omega)))))
  have kzw4 := kw4.size
  have k34 : Below w3.heap.size w3 w4 := Below.trans (by repeat (first | (with_reducible assumption) | (with_reducible exact Below.refl _ _) | (with_reducible refine Below.drew ?_) | (with_reducible refine below_drewN ?_ _) | ((with_reducible refine Below.alloc ?_ ?_ _); rotate_left; (focus (first | exact Nat.le_refl _ | omega | (simp; done) | (simp; omega) | (simp at *; omega)))) | ((with_reducible refine Below.setCell ?_ ?_ _); rotate_left; (focus (first | exact Nat.le_refl _ | omega | (simp; done) | (simp; omega) | (simp at *; omega)))))) (hbw4.mono (by (focus (first | exact Nat.le_refl _ | omega | (simp; done) | (simp; omega) | (simp at *; omega)))))
  have k24 : Below w2.heap.size w2 w4 := k23.trans (k34.mono k23.size)
  have k14 : Below w1.heap.size w1 w4 := k12.trans (k24.mono k12.size)
  have l4a : w3.heap.size < w4.heap.size := by omega
  have l4b : w2.heap.size < w4.heap.size := by omega
  have l4c : w1.heap.size < w4.heap.size := by omega
  have Bxn : Blk w4 (w1.heap.size) 26 #[.int .i64 1, .int .i64 2, .slice (some ⟨g1, 0, none⟩) 2 2] := Blk.below (by repeat (first | (with_reducible assumption) | (with_reducible exact Blk.new _ _ _) | ((with_reducible refine Blk.new_at _ _ _ ?_); (focus (first | (simp; done) | omega))) | (with_reducible refine Blk.drew ?_) | (with_reducible refine Blk.drewN ?_ _) | (with_reducible refine Blk.alloc ?_ _) | ((with_reducible refine Blk.far ?_ ?_ _); rotate_left; (focus (first | (simp; done) | (simp; omega) | omega))))) hbw4 (by (focus (first | omega | (simp; done) | (simp; omega) | (simp at *; omega))))
  try clear cx fx
  try clear Bx
  have Bx := Bxn
  clear Bxn
  have cx := Bx.cell
  have fx := Bx.frozen
  have lxw4 := Bx.lt
  have Byn : Blk w4 (w1.heap.size + 1) 28 #[.int .i64 0, .int .i64 0] := Blk.below (by repeat (first | (with_reducible assumption) | (with_reducible exact Blk.new _ _ _) | ((with_reducible refine Blk.new_at _ _ _ ?_); (focus (first | (simp; done) | omega))) | (with_reducible refine Blk.drew ?_) | (with_reducible refine Blk.drewN ?_ _) | (with_reducible refine Blk.alloc ?_ _) | ((with_reducible refine Blk.far ?_ ?_ _); rotate_left; (focus (first | (simp; done) | (simp; omega) | omega))))) hbw4 (by (focus (first | omega | (simp; done) | (simp; omega) | (simp at *; omega))))
  try clear cy fy
  try clear By
  have By := Byn
  clear Byn
  have cy := By.cell
  have fy := By.frozen
  have lyw4 := By.lt
  have Bzn : Blk w4 (w2.heap.size) 26 #[.int .i64 2, .int .i64 2, .slice (some ⟨g2, 0, none⟩) 4 4] := Blk.below (by repeat (first | (with_reducible assumption) | (with_reducible exact Blk.new _ _ _) | ((with_reducible refine Blk.new_at _ _ _ ?_); (focus (first | (simp; done) | omega))) | (with_reducible refine Blk.drew ?_) | (with_reducible refine Blk.drewN ?_ _) | (with_reducible refine Blk.alloc ?_ _) | ((with_reducible refine Blk.far ?_ ?_ _); rotate_left; (focus (first | (simp; done) | (simp; omega) | omega))))) hbw4 (by (focus (first | omega | (simp; done) | (simp; omega) | (simp at *; omega))))
  try clear cz fz
  try clear Bz
  have Bz := Bzn
  clear Bzn
  have cz := Bz.cell
  have fz := Bz.frozen
  have lzw4 := Bz.lt
  have Bun : Blk w4 (w2.heap.size + 1) 28 #[.int .i64 0, .int .i64 0] := Blk.below (by repeat (first | (with_reducible assumption) | (with_reducible exact Blk.new _ _ _) | ((with_reducible refine Blk.new_at _ _ _ ?_); (focus (first | (simp; done) | omega))) | (with_reducible refine Blk.drew ?_) | (with_reducible refine Blk.drewN ?_ _) | (with_reducible refine Blk.alloc ?_ _) | ((with_reducible refine Blk.far ?_ ?_ _); rotate_left; (focus (first | (simp; done) | (simp; omega) | omega))))) hbw4 (by (focus (first | omega | (simp; done) | (simp; omega) | (simp at *; omega))))
  try clear cu fu
  try clear Bu
  have Bu := Bun
  clear Bun
  have cu := Bu.cell
  have fu := Bu.frozen
  have luw4 := Bu.lt
  have Bvn : Blk w4 (w3.heap.size) 26 #[.int .i64 1, .int .i64 1, .slice (some ⟨g3, 0, none⟩) 1 1] := Blk.below (by repeat (first | (with_reducible assumption) | (with_reducible exact Blk.new _ _ _) | ((with_reducible refine Blk.new_at _ _ _ ?_); (focus (first | (simp; done) | omega))) | (with_reducible refine Blk.drew ?_) | (with_reducible refine Blk.drewN ?_ _) | (with_reducible refine Blk.alloc ?_ _) | ((with_reducible refine Blk.far ?_ ?_ _); rotate_left; (focus (first | (simp; done) | (simp; omega) | omega))))) hbw4 (by (focus (first | omega | (simp; done) | (simp; omega) | (simp at *; omega))))
  try clear cv fv
  try clear Bv
  have Bv := Bvn
  clear Bvn
  have cv := Bv.cell
  have fv := Bv.frozen
  have lvw4 := Bv.lt
  have Btn : Blk w4 (w3.heap.size + 1) 28 #[.int .i64 0, .int .i64 0] := Blk.below (by repeat (first | (with_reducible assumption) | (with_reducible exact Blk.new _ _ _) | ((with_reducible refine Blk.new_at _ _ _ ?_); (focus (first | (simp; done) | omega))) | (with_reducible refine Blk.drew ?_) | (with_reducible refine Blk.drewN ?_ _) | (with_reducible refine Blk.alloc ?_ _) | ((with_reducible refine Blk.far ?_ ?_ _); rotate_left; (focus (first | (simp; done) | (simp; omega) | omega))))) hbw4 (by (focus (first | omega | (simp; done) | (simp; omega) | (simp at *; omega))))
  try clear ct ft
  try clear Bt
  have Bt := Btn
  clear Btn
  have ct := Bt.cell
  have ft := Bt.frozen
  have ltw4 := Bt.lt
  go_wp2_with fail
  have hS1 := fun w h1 h2 => Same_any (some ⟨g1, 0, none⟩) (some ⟨w4.heap.size + 1, 0, none⟩) 2 2 2 2 (tuF 2 1 1 f12) f12 w h1 h2
  rw [be1] at hS1
  refine (hS1 _ (R1.out _ (by repeat (first | (with_reducible assumption) | (with_reducible exact Below.refl _ _) | (with_reducible refine Below.drew ?_) | (with_reducible refine below_drewN ?_ _) | ((with_reducible refine Below.alloc ?_ ?_ _); rotate_left; (focus (first | exact Nat.le_refl _ | omega | (simp; done) | (simp; omega) | (simp at *; omega)))) | ((with_reducible refine Below.setCell ?_ ?_ _); rotate_left; (focus (first | exact Nat.le_refl _ | omega | (simp; done) | (simp; omega) | (simp at *; omega))))))) (Rd.of_row (row12 _ (by simp)))).mono ?_
  rintro e w5 ⟨rfl, rfl⟩
  go_wp2_with fail
  have hS2 := fun w h1 h2 => Same_any (some ⟨g2, 0, none⟩) (some ⟨w4.heap.size + 1 + 1, 0, none⟩) 4 4 4 4 (scF 2 1 f12 f01 2) f1552 w h1 h2
  rw [be2] at hS2
  refine (hS2 _ (R2.out _ (by repeat (first | (with_reducible assumption) | (with_reducible exact Below.refl _ _) | (with_reducible refine Below.drew ?_) | (with_reducible refine below_drewN ?_ _) | ((with_reducible refine Below.alloc ?_ ?_ _); rotate_left; (focus (first | exact Nat.le_refl _ | omega | (simp; done) | (simp; omega) | (simp at *; omega)))) | ((with_reducible refine Below.setCell ?_ ?_ _); rotate_left; (focus (first | exact Nat.le_refl _ | omega | (simp; done) | (simp; omega) | (simp at *; omega))))))) (Rd.of_row (row1552 _ (by simp)))).mono ?_
  rintro e w5 ⟨rfl, rfl⟩
  go_wp2_with fail
  have hS3 := fun w h1 h2 => Same_any (some ⟨g3, 0, none⟩) (some ⟨w4.heap.size + 1 + 1 + 1, 0, none⟩) 1 1 1 1 (smF 1 1 (fun _ => 0)) (fun _ => 226) w h1 h2
  rw [be3] at hS3
  refine (hS3 _ (R3.out _ (by repeat (first | (with_reducible assumption) | (with_reducible exact Below.refl _ _) | (with_reducible refine Below.drew ?_) | (with_reducible refine below_drewN ?_ _) | ((with_reducible refine Below.alloc ?_ ?_ _); rotate_left; (focus (first | exact Nat.le_refl _ | omega | (simp; done) | (simp; omega) | (simp at *; omega)))) | ((with_reducible refine Below.setCell ?_ ?_ _); rotate_left; (focus (first | exact Nat.le_refl _ | omega | (simp; done) | (simp; omega) | (simp at *; omega))))))) (Rd.of_row (row226 _ (by simp)))).mono ?_
  rintro e w5 ⟨rfl, rfl⟩
  go_wp2
  go_ret
  exact ⟨rfl, (by repeat (first | (with_reducible assumption) | (with_reducible exact Below.refl _ _) | (with_reducible refine Below.drew ?_) | (with_reducible refine below_drewN ?_ _) | ((with_reducible refine Below.alloc ?_ ?_ _); rotate_left; (focus (first | exact Nat.le_refl _ | omega | (simp; done) | (simp; omega) | (simp at *; omega)))) | ((with_reducible refine Below.setCell ?_ ?_ _); rotate_left; (focus (first | exact Nat.le_refl _ | omega | (simp; done) | (simp; omega) | (simp at *; omega))))))⟩

end Go.Proofs.Ytpdjiokmafoppaa
