/- ref6.marked, ref6.Composed, ref6.Undone. Conditions: the turns are turns. -/
import Derived.Test.YtpdjiokmafoppaaTurned
namespace Go.Proofs.Ytpdjiokmafoppaa
open Go.RowKit

/-- The pixels 1 .. 6. -/
def f6 (i : Nat) : Int := if i < 6 then (i : Int) + 1 else 0
theorem f6_byt : Byt f6 := fun i => by unfold f6; split <;> omega
theorem img6 : ImgOk 2 3 6 := ⟨by decide, by decide, by decide, by decide, by decide⟩
theorem row6 (w : World) {g : Nat} (h : g = w.heap.size) : (w.alloc (.cells #[.int .u8 1, .int .u8 2, .int .u8 3, .int .u8 4, .int .u8 5, .int .u8 6] 5)).rowIs g 5 6 (fun i => .int .u8 (f6 i)) := by
  subst h
  exact World.rowIs_alloc w #[.int .u8 1, .int .u8 2, .int .u8 3, .int .u8 4, .int .u8 5, .int .u8 6] 5 (fun i => .int .u8 (f6 i)) (fun i hi => by
    have : i = 0 ∨ i = 1 ∨ i = 2 ∨ i = 3 ∨ i = 4 ∨ i = 5 := by simp at hi; omega
    rcases this with rfl | rfl | rfl | rfl | rfl | rfl <;> rfl)
theorem marked_any (w : World) : Calls Try.prog 120 #[] w fun e w' => ∃ g, e = .returned (iv 2 3 (some ⟨g, 0, none⟩) 6 6) ∧ w.heap.size ≤ g ∧ w'.rowIs g 5 6 (fun k => .int .u8 (f6 k)) ∧ Below w.heap.size w w' := by
  go_enter Try.func120, Try.ntmps120
  go_wp2
  refine bodyPost_ret (v := (iv 2 3 (some ⟨w.heap.size + 1, 0, none⟩) 6 6)) (by simp [results, Try.results120, go_sem, *]) rfl ?_
  exact ⟨_, rfl, by omega, row6 _ (by simp), (by repeat (first | (with_reducible assumption) | (with_reducible exact Below.refl _ _) | (with_reducible refine Below.drew ?_) | (with_reducible refine below_drewN ?_ _) | ((with_reducible refine Below.alloc ?_ ?_ _); rotate_left; (focus (first | exact Nat.le_refl _ | omega | (simp; done) | (simp; omega) | (simp at *; omega)))) | ((with_reducible refine Below.setCell ?_ ?_ _); rotate_left; (focus (first | exact Nat.le_refl _ | omega | (simp; done) | (simp; omega) | (simp at *; omega))))))⟩
theorem mark_ne {u v : Int} (hu : 0 ≤ u ∧ u ≤ 7) (hv : 0 ≤ v ∧ v ≤ 7) (h : u ≠ v) : sameI (tuW 2 3 u) (tuH 2 3 u) 6 (tuF 2 3 u f6) (tuW 2 3 v) (tuH 2 3 v) 6 (tuF 2 3 v f6) = false := by
  rw [Bool.eq_false_iff]
  intro hs
  simp only [sameI, Bool.and_eq_true] at hs
  obtain ⟨_, _, hs⟩ := hs
  have e := ((sameB_iff (tuF_byt f6_byt) (tuF_byt f6_byt)).1 hs).2
  have e0 := e 0 (by decide)
  have e1 := e 1 (by decide)
  have e2 := e 2 (by decide)
  have e3 := e 3 (by decide)
  have e4 := e 4 (by decide)
  have e5 := e 5 (by decide)
  clear e hs
  rcases tu_cases hu with rfl | rfl | rfl | rfl | rfl | rfl | rfl | rfl <;> rcases tu_cases hv with rfl | rfl | rfl | rfl | rfl | rfl | rfl | rfl <;> first | exact absurd rfl h | (revert e0 e1 e2 e3 e4 e5; decide)
theorem f6_0 : tuF 2 3 0 f6 = f6 := funext fun k => tu_0 f6 k

set_option maxHeartbeats 2000000 in
set_option maxRecDepth 100000 in
theorem Composed_ok (s t : Int) (hs : 0 ≤ s ∧ s ≤ 7) (ht : 0 ≤ t ∧ t ≤ 7) (w : World) : Calls Try.prog 61 #[.int .i64 s, .int .i64 t] w fun e w' => e = .returned (.int .i64 (coF s t)) ∧ Below w.heap.size w w' := by
  have HS := Lib.hid hs
  have HT := Lib.hid ht
  have hb := coF_bd hs ht
  obtain ⟨m, hm⟩ : ∃ m : Nat, (m : Int) = coF s t := ⟨(coF s t).toNat, by omega⟩
  have HM := Lib.hid hm
  have hm7 : m ≤ 7 := by omega
  have HM7 := Lib.hid hm7
  have HC := Lib.hid (turn_turn (p := f6) img6 hs ht)
  clear hs ht hb
  go_enter Try.func61, Try.ntmps61
  go_wp2_with fail
  refine (marked_any _).mono ?_
  rintro e w1 ⟨g1, rfl, hg1, hrow, hbw1⟩
  have R1 := Lib.hid (Rd.of_row hrow)
  clear hrow
  have hzw1 := hbw1.size
  try simp at hzw1
  have kw1 : Below w.heap.size w w1 := Below.trans (by repeat (first | (with_reducible assumption) | (with_reducible exact Below.refl _ _) | (with_reducible refine Below.drew ?_) | (with_reducible refine below_drewN ?_ _) | ((with_reducible refine Below.alloc ?_ ?_ _); rotate_left; (focus (first | exact Nat.le_refl _ | omega | (simp; done) | (simp; omega) | (simp at *; omega)))) | ((with_reducible refine Below.setCell ?_ ?_ _); rotate_left; (focus (first | exact Nat.le_refl _ | omega | (simp; done) | (simp; omega) | (simp at *; omega)))))) (hbw1.mono (by (focus (first | exact Nat.le_refl _ | omega | (simp; done) | (simp; omega) | (simp at *; omega)))))
  have kzw1 := kw1.size
  go_wp2_with fail
  refine (Turned_ok (some ⟨g1, 0, none⟩) 6 6 2 3 s f6 _ img6 R1.out HS.out).mono ?_
  rintro e w2 ⟨g2, rfl, hg2, hrow, hbw2⟩
  have R2 := Lib.hid (Rd.of_row hrow)
  clear hrow
  have hzw2 := hbw2.size
  try simp at hzw2
  have kw2 : Below w.heap.size w w2 := Below.trans (by repeat (first | (with_reducible assumption) | (with_reducible exact Below.refl _ _) | (with_reducible refine Below.drew ?_) | (with_reducible refine below_drewN ?_ _) | ((with_reducible refine Below.alloc ?_ ?_ _); rotate_left; (focus (first | exact Nat.le_refl _ | omega | (simp; done) | (simp; omega) | (simp at *; omega)))) | ((with_reducible refine Below.setCell ?_ ?_ _); rotate_left; (focus (first | exact Nat.le_refl _ | omega | (simp; done) | (simp; omega) | (simp at *; omega)))))) (hbw2.mono (by (focus (first | exact Nat.le_refl _ | omega | (simp; done) | (simp; omega) | (simp at *; omega)))))
  have kzw2 := kw2.size
  go_wp2_with fail
  have hT := fun w h => Turned_ok (some ⟨g2, 0, none⟩) 6 6 (tuW 2 3 s) (tuH 2 3 s) t (tuF 2 3 s f6) w (tu_img img6) h HT.out
  rw [(tu_co HS.out HT.out).1, (tu_co HS.out HT.out).2] at hT
  refine (hT _ R2.out).mono ?_
  rintro e w3 ⟨g3, rfl, hg3, hrow, hbw3⟩
  have R3 := rd_later ((Rd.of_row hrow).congr (g := fun k => .int .u8 (tuF 2 3 (coF s t) f6 k)) fun i hi => by rw [HC.out i hi])
  clear hrow hT
  have hzw3 := hbw3.size
  try simp at hzw3
  have kw3 : Below w.heap.size w w3 := Below.trans (by repeat (first | (with_reducible assumption) | (with_reducible exact Below.refl _ _) | (with_reducible refine Below.drew ?_) | (with_reducible refine below_drewN ?_ _) | ((with_reducible refine Below.alloc ?_ ?_ _); rotate_left; (focus (first | exact Nat.le_refl _ | omega | (simp; done) | (simp; omega) | (simp at *; omega)))) | ((with_reducible refine Below.setCell ?_ ?_ _); rotate_left; (focus (first | exact Nat.le_refl _ | omega | (simp; done) | (simp; omega) | (simp at *; omega)))))) (hbw3.mono (by (focus (first | exact Nat.le_refl _ | omega | (simp; done) | (simp; omega) | (simp at *; omega)))))
  have kzw3 := kw3.size
  rw [← hm] at R3 ⊢
  clear hm
  go_wp2
  go_loopg [6] 8 (fun gk s6 wr => ∃ k : Nat, k ≤ m ∧ gk = 8 - k ∧ s6 = .int .i64 k ∧ Blk wr w3.heap.size 26 #[.int .i64 (tuW 2 3 m), .int .i64 (tuH 2 3 m), .slice (some ⟨g3, 0, none⟩) 6 6] ∧ Below w3.heap.size w3 wr ∧ Below w.heap.size w wr)
  case atStart => exact ⟨0, by omega, rfl, rfl, (by repeat (first | (with_reducible assumption) | (with_reducible exact Blk.new _ _ _) | ((with_reducible refine Blk.new_at _ _ _ ?_); (focus (first | (simp; done) | omega))) | (with_reducible refine Blk.drew ?_) | (with_reducible refine Blk.drewN ?_ _) | (with_reducible refine Blk.alloc ?_ _) | ((with_reducible refine Blk.far ?_ ?_ _); rotate_left; (focus (first | (simp; done) | (simp; omega) | omega))))), (by repeat (first | (with_reducible assumption) | (with_reducible exact Below.refl _ _) | (with_reducible refine Below.drew ?_) | (with_reducible refine below_drewN ?_ _) | ((with_reducible refine Below.alloc ?_ ?_ _); rotate_left; (focus (first | exact Nat.le_refl _ | omega | (simp; done) | (simp; omega) | (simp at *; omega)))) | ((with_reducible refine Below.setCell ?_ ?_ _); rotate_left; (focus (first | exact Nat.le_refl _ | omega | (simp; done) | (simp; omega) | (simp at *; omega)))))), (by repeat (first | (with_reducible assumption) | (with_reducible exact Below.refl _ _) | (with_reducible refine Below.drew ?_) | (with_reducible refine below_drewN ?_ _) | ((with_reducible refine Below.alloc ?_ ?_ _); rotate_left; (focus (first | exact Nat.le_refl _ | omega | (simp; done) | (simp; omega) | (simp at *; omega)))) | ((with_reducible refine Below.setCell ?_ ?_ _); rotate_left; (focus (first | exact Nat.le_refl _ | omega | (simp; done) | (simp; omega) | (simp at *; omega))))))⟩
  case round =>
    obtain ⟨k, hk, rfl, rfl, hB, hb3, hbel⟩ := hrel
    have hk8 : (k : Int) < 8 := by omega
    have hk0 : (0 : Int) ≤ (k : Int) ∧ (k : Int) ≤ 7 := by omega
    have HK0 := Lib.hid hk0
    have HR3 := Lib.hid (R3.out _ hb3)
    have R4 := rd_later HR3.out
    have cb := hB.cell
    have lb := hB.lt
    have HBB := Lib.hid hB
    have CS : Hid (∀ X, Below wr.heap.size wr X → X.cell? ⟨w3.heap.size, 0, none⟩ = some (.int .i64 (tuW 2 3 m)) ∧ X.cell? ⟨w3.heap.size, 1, none⟩ = some (.int .i64 (tuH 2 3 m)) ∧ X.cell? ⟨w3.heap.size, 2, none⟩ = some (.slice (some ⟨g3, 0, none⟩) 6 6)) :=
      Lib.hid fun X h => ⟨(hB.below h lb).cell 0, (hB.below h lb).cell 1, (hB.below h lb).cell 2⟩
    clear hB hk0
    by_cases hlt : k = m
    · subst hlt
      go_wp2_with fail
      go_region_held3 (fun X => X.cell? ⟨w3.heap.size, 0, none⟩ = some (.int .i64 (tuW 2 3 k)) ∧ X.cell? ⟨w3.heap.size, 1, none⟩ = some (.int .i64 (tuH 2 3 k)) ∧ X.cell? ⟨w3.heap.size, 2, none⟩ = some (.slice (some ⟨g3, 0, none⟩) 6 6))
        (exact CS.out _ (by repeat (first | (with_reducible assumption) | (with_reducible exact Below.refl _ _) | (with_reducible refine Below.drew ?_) | (with_reducible refine below_drewN ?_ _) | ((with_reducible refine Below.alloc ?_ ?_ _); rotate_left; (focus (first | exact Nat.le_refl _ | omega | (simp; done) | (simp; omega) | (simp at *; omega)))) | ((with_reducible refine Below.setCell ?_ ?_ _); rotate_left; (focus (first | exact Nat.le_refl _ | omega | (simp; done) | (simp; omega) | (simp at *; omega)))))))
        (first
          | (go_at_call 120
             refine (marked_any _).mono ?_
             rintro e wa ⟨ga, rfl, hga, hrowa, hbwa⟩
             have RA := rd_later (Rd.of_row hrowa)
             clear hrowa
             have hzwa := hbwa.size
             try simp at hzwa
             have kwa : Below w.heap.size w wa := Below.trans (by repeat (first | (with_reducible assumption) | (with_reducible exact Below.refl _ _) | (with_reducible refine Below.drew ?_) | (with_reducible refine below_drewN ?_ _) | ((with_reducible refine Below.alloc ?_ ?_ _); rotate_left; (focus (first | exact Nat.le_refl _ | omega | (simp; done) | (simp; omega) | (simp at *; omega)))) | ((with_reducible refine Below.setCell ?_ ?_ _); rotate_left; (focus (first | exact Nat.le_refl _ | omega | (simp; done) | (simp; omega) | (simp at *; omega)))))) (hbwa.mono (by (focus (first | exact Nat.le_refl _ | omega | (simp; done) | (simp; omega) | (simp at *; omega)))))
             have kzwa := kwa.size
             have jwa : Below wr.heap.size wr wa := Below.trans (by repeat (first | (with_reducible assumption) | (with_reducible exact Below.refl _ _) | (with_reducible refine Below.drew ?_) | (with_reducible refine below_drewN ?_ _) | ((with_reducible refine Below.alloc ?_ ?_ _); rotate_left; (focus (first | exact Nat.le_refl _ | omega | (simp; done) | (simp; omega) | (simp at *; omega)))) | ((with_reducible refine Below.setCell ?_ ?_ _); rotate_left; (focus (first | exact Nat.le_refl _ | omega | (simp; done) | (simp; omega) | (simp at *; omega)))))) (hbwa.mono (by (focus (first | exact Nat.le_refl _ | omega | (simp; done) | (simp; omega) | (simp at *; omega))))))
          | (go_at_call 59
             refine (Turned_ok _ 6 6 2 3 k f6 _ img6 (RA.out _ (by repeat (first | (with_reducible assumption) | (with_reducible exact Below.refl _ _) | (with_reducible refine Below.drew ?_) | (with_reducible refine below_drewN ?_ _) | ((with_reducible refine Below.alloc ?_ ?_ _); rotate_left; (focus (first | exact Nat.le_refl _ | omega | (simp; done) | (simp; omega) | (simp at *; omega)))) | ((with_reducible refine Below.setCell ?_ ?_ _); rotate_left; (focus (first | exact Nat.le_refl _ | omega | (simp; done) | (simp; omega) | (simp at *; omega))))))) HK0.out).mono ?_
             rintro e wb ⟨gb, rfl, hgb, hrowb, hbwb⟩
             have RB := rd_later (Rd.of_row hrowb)
             clear hrowb
             have hzwb := hbwb.size
             try simp at hzwb
             have kwb : Below w.heap.size w wb := Below.trans (by repeat (first | (with_reducible assumption) | (with_reducible exact Below.refl _ _) | (with_reducible refine Below.drew ?_) | (with_reducible refine below_drewN ?_ _) | ((with_reducible refine Below.alloc ?_ ?_ _); rotate_left; (focus (first | exact Nat.le_refl _ | omega | (simp; done) | (simp; omega) | (simp at *; omega)))) | ((with_reducible refine Below.setCell ?_ ?_ _); rotate_left; (focus (first | exact Nat.le_refl _ | omega | (simp; done) | (simp; omega) | (simp at *; omega)))))) (hbwb.mono (by (focus (first | exact Nat.le_refl _ | omega | (simp; done) | (simp; omega) | (simp at *; omega)))))
             have kzwb := kwb.size
             have jwb : Below wr.heap.size wr wb := Below.trans (by repeat (first | (with_reducible assumption) | (with_reducible exact Below.refl _ _) | (with_reducible refine Below.drew ?_) | (with_reducible refine below_drewN ?_ _) | ((with_reducible refine Below.alloc ?_ ?_ _); rotate_left; (focus (first | exact Nat.le_refl _ | omega | (simp; done) | (simp; omega) | (simp at *; omega)))) | ((with_reducible refine Below.setCell ?_ ?_ _); rotate_left; (focus (first | exact Nat.le_refl _ | omega | (simp; done) | (simp; omega) | (simp at *; omega)))))) (hbwb.mono (by (focus (first | exact Nat.le_refl _ | omega | (simp; done) | (simp; omega) | (simp at *; omega))))))
          | (go_at_call 29
             refine (SameImage_eq _ _ 6 _ _ _ _ _ _ (RB.out _ (by repeat (first | (with_reducible assumption) | (with_reducible exact Below.refl _ _) | (with_reducible refine Below.drew ?_) | (with_reducible refine below_drewN ?_ _) | ((with_reducible refine Below.alloc ?_ ?_ _); rotate_left; (focus (first | exact Nat.le_refl _ | omega | (simp; done) | (simp; omega) | (simp at *; omega)))) | ((with_reducible refine Below.setCell ?_ ?_ _); rotate_left; (focus (first | exact Nat.le_refl _ | omega | (simp; done) | (simp; omega) | (simp at *; omega))))))) (R4.out _ (by repeat (first | (with_reducible assumption) | (with_reducible exact Below.refl _ _) | (with_reducible refine Below.drew ?_) | (with_reducible refine below_drewN ?_ _) | ((with_reducible refine Below.alloc ?_ ?_ _); rotate_left; (focus (first | exact Nat.le_refl _ | omega | (simp; done) | (simp; omega) | (simp at *; omega)))) | ((with_reducible refine Below.setCell ?_ ?_ _); rotate_left; (focus (first | exact Nat.le_refl _ | omega | (simp; done) | (simp; omega) | (simp at *; omega)))))))).mono ?_
             rintro e wc ⟨rfl, hbwc⟩
             have hzwc := hbwc.size
             try simp at hzwc
             have kwc : Below w.heap.size w wc := Below.trans (by repeat (first | (with_reducible assumption) | (with_reducible exact Below.refl _ _) | (with_reducible refine Below.drew ?_) | (with_reducible refine below_drewN ?_ _) | ((with_reducible refine Below.alloc ?_ ?_ _); rotate_left; (focus (first | exact Nat.le_refl _ | omega | (simp; done) | (simp; omega) | (simp at *; omega)))) | ((with_reducible refine Below.setCell ?_ ?_ _); rotate_left; (focus (first | exact Nat.le_refl _ | omega | (simp; done) | (simp; omega) | (simp at *; omega)))))) (hbwc.mono (by (focus (first | exact Nat.le_refl _ | omega | (simp; done) | (simp; omega) | (simp at *; omega)))))
             have kzwc := kwc.size
             have jwc : Below wr.heap.size wr wc := Below.trans (by repeat (first | (with_reducible assumption) | (with_reducible exact Below.refl _ _) | (with_reducible refine Below.drew ?_) | (with_reducible refine below_drewN ?_ _) | ((with_reducible refine Below.alloc ?_ ?_ _); rotate_left; (focus (first | exact Nat.le_refl _ | omega | (simp; done) | (simp; omega) | (simp at *; omega)))) | ((with_reducible refine Below.setCell ?_ ?_ _); rotate_left; (focus (first | exact Nat.le_refl _ | omega | (simp; done) | (simp; omega) | (simp at *; omega)))))) (hbwc.mono (by (focus (first | exact Nat.le_refl _ | omega | (simp; done) | (simp; omega) | (simp at *; omega)))))))
      go_wp2
      go_ret
      exact ⟨by rw [← HM.out]; rfl, (by repeat (first | (with_reducible assumption) | (with_reducible exact Below.refl _ _) | (with_reducible refine Below.drew ?_) | (with_reducible refine below_drewN ?_ _) | ((with_reducible refine Below.alloc ?_ ?_ _); rotate_left; (focus (first | exact Nat.le_refl _ | omega | (simp; done) | (simp; omega) | (simp at *; omega)))) | ((with_reducible refine Below.setCell ?_ ?_ _); rotate_left; (focus (first | exact Nat.le_refl _ | omega | (simp; done) | (simp; omega) | (simp at *; omega))))))⟩
    · have HK := Lib.hid (show k + 1 ≤ m by omega)
      have HNE := Lib.hid (mark_ne (u := (k : Int)) (v := (m : Int)) HK0.out ⟨by omega, by omega⟩ (by omega))
      go_wp2_with fail
      go_region_held3 (fun X => X.cell? ⟨w3.heap.size, 0, none⟩ = some (.int .i64 (tuW 2 3 m)) ∧ X.cell? ⟨w3.heap.size, 1, none⟩ = some (.int .i64 (tuH 2 3 m)) ∧ X.cell? ⟨w3.heap.size, 2, none⟩ = some (.slice (some ⟨g3, 0, none⟩) 6 6))
        (exact CS.out _ (by repeat (first | (with_reducible assumption) | (with_reducible exact Below.refl _ _) | (with_reducible refine Below.drew ?_) | (with_reducible refine below_drewN ?_ _) | ((with_reducible refine Below.alloc ?_ ?_ _); rotate_left; (focus (first | exact Nat.le_refl _ | omega | (simp; done) | (simp; omega) | (simp at *; omega)))) | ((with_reducible refine Below.setCell ?_ ?_ _); rotate_left; (focus (first | exact Nat.le_refl _ | omega | (simp; done) | (simp; omega) | (simp at *; omega)))))))
        (first
          | (go_at_call 120
             refine (marked_any _).mono ?_
             rintro e wa ⟨ga, rfl, hga, hrowa, hbwa⟩
             have RA := rd_later (Rd.of_row hrowa)
             clear hrowa
             have hzwa := hbwa.size
             try simp at hzwa
             have kwa : Below w.heap.size w wa := Below.trans (by repeat (first | (with_reducible assumption) | (with_reducible exact Below.refl _ _) | (with_reducible refine Below.drew ?_) | (with_reducible refine below_drewN ?_ _) | ((with_reducible refine Below.alloc ?_ ?_ _); rotate_left; (focus (first | exact Nat.le_refl _ | omega | (simp; done) | (simp; omega) | (simp at *; omega)))) | ((with_reducible refine Below.setCell ?_ ?_ _); rotate_left; (focus (first | exact Nat.le_refl _ | omega | (simp; done) | (simp; omega) | (simp at *; omega)))))) (hbwa.mono (by (focus (first | exact Nat.le_refl _ | omega | (simp; done) | (simp; omega) | (simp at *; omega)))))
             have kzwa := kwa.size
             have jwa : Below wr.heap.size wr wa := Below.trans (by repeat (first | (with_reducible assumption) | (with_reducible exact Below.refl _ _) | (with_reducible refine Below.drew ?_) | (with_reducible refine below_drewN ?_ _) | ((with_reducible refine Below.alloc ?_ ?_ _); rotate_left; (focus (first | exact Nat.le_refl _ | omega | (simp; done) | (simp; omega) | (simp at *; omega)))) | ((with_reducible refine Below.setCell ?_ ?_ _); rotate_left; (focus (first | exact Nat.le_refl _ | omega | (simp; done) | (simp; omega) | (simp at *; omega)))))) (hbwa.mono (by (focus (first | exact Nat.le_refl _ | omega | (simp; done) | (simp; omega) | (simp at *; omega))))))
          | (go_at_call 59
             refine (Turned_ok _ 6 6 2 3 k f6 _ img6 (RA.out _ (by repeat (first | (with_reducible assumption) | (with_reducible exact Below.refl _ _) | (with_reducible refine Below.drew ?_) | (with_reducible refine below_drewN ?_ _) | ((with_reducible refine Below.alloc ?_ ?_ _); rotate_left; (focus (first | exact Nat.le_refl _ | omega | (simp; done) | (simp; omega) | (simp at *; omega)))) | ((with_reducible refine Below.setCell ?_ ?_ _); rotate_left; (focus (first | exact Nat.le_refl _ | omega | (simp; done) | (simp; omega) | (simp at *; omega))))))) HK0.out).mono ?_
             rintro e wb ⟨gb, rfl, hgb, hrowb, hbwb⟩
             have RB := rd_later (Rd.of_row hrowb)
             clear hrowb
             have hzwb := hbwb.size
             try simp at hzwb
             have kwb : Below w.heap.size w wb := Below.trans (by repeat (first | (with_reducible assumption) | (with_reducible exact Below.refl _ _) | (with_reducible refine Below.drew ?_) | (with_reducible refine below_drewN ?_ _) | ((with_reducible refine Below.alloc ?_ ?_ _); rotate_left; (focus (first | exact Nat.le_refl _ | omega | (simp; done) | (simp; omega) | (simp at *; omega)))) | ((with_reducible refine Below.setCell ?_ ?_ _); rotate_left; (focus (first | exact Nat.le_refl _ | omega | (simp; done) | (simp; omega) | (simp at *; omega)))))) (hbwb.mono (by (focus (first | exact Nat.le_refl _ | omega | (simp; done) | (simp; omega) | (simp at *; omega)))))
             have kzwb := kwb.size
             have jwb : Below wr.heap.size wr wb := Below.trans (by repeat (first | (with_reducible assumption) | (with_reducible exact Below.refl _ _) | (with_reducible refine Below.drew ?_) | (with_reducible refine below_drewN ?_ _) | ((with_reducible refine Below.alloc ?_ ?_ _); rotate_left; (focus (first | exact Nat.le_refl _ | omega | (simp; done) | (simp; omega) | (simp at *; omega)))) | ((with_reducible refine Below.setCell ?_ ?_ _); rotate_left; (focus (first | exact Nat.le_refl _ | omega | (simp; done) | (simp; omega) | (simp at *; omega)))))) (hbwb.mono (by (focus (first | exact Nat.le_refl _ | omega | (simp; done) | (simp; omega) | (simp at *; omega))))))
          | (go_at_call 29
             refine (SameImage_any _ _ 6 _ 6 _ _ _ _ _ _ _ _ (RB.out _ (by repeat (first | (with_reducible assumption) | (with_reducible exact Below.refl _ _) | (with_reducible refine Below.drew ?_) | (with_reducible refine below_drewN ?_ _) | ((with_reducible refine Below.alloc ?_ ?_ _); rotate_left; (focus (first | exact Nat.le_refl _ | omega | (simp; done) | (simp; omega) | (simp at *; omega)))) | ((with_reducible refine Below.setCell ?_ ?_ _); rotate_left; (focus (first | exact Nat.le_refl _ | omega | (simp; done) | (simp; omega) | (simp at *; omega))))))) (R4.out _ (by repeat (first | (with_reducible assumption) | (with_reducible exact Below.refl _ _) | (with_reducible refine Below.drew ?_) | (with_reducible refine below_drewN ?_ _) | ((with_reducible refine Below.alloc ?_ ?_ _); rotate_left; (focus (first | exact Nat.le_refl _ | omega | (simp; done) | (simp; omega) | (simp at *; omega)))) | ((with_reducible refine Below.setCell ?_ ?_ _); rotate_left; (focus (first | exact Nat.le_refl _ | omega | (simp; done) | (simp; omega) | (simp at *; omega)))))))).mono ?_
             rw [HNE.out]
             rintro e wc ⟨rfl, hbwc⟩
             have hzwc := hbwc.size
             try simp at hzwc
             have kwc : Below w.heap.size w wc := Below.trans (by repeat (first | (with_reducible assumption) | (with_reducible exact Below.refl _ _) | (with_reducible refine Below.drew ?_) | (with_reducible refine below_drewN ?_ _) | ((with_reducible refine Below.alloc ?_ ?_ _); rotate_left; (focus (first | exact Nat.le_refl _ | omega | (simp; done) | (simp; omega) | (simp at *; omega)))) | ((with_reducible refine Below.setCell ?_ ?_ _); rotate_left; (focus (first | exact Nat.le_refl _ | omega | (simp; done) | (simp; omega) | (simp at *; omega)))))) (hbwc.mono (by (focus (first | exact Nat.le_refl _ | omega | (simp; done) | (simp; omega) | (simp at *; omega)))))
             have kzwc := kwc.size
             have jwc : Below wr.heap.size wr wc := Below.trans (by repeat (first | (with_reducible assumption) | (with_reducible exact Below.refl _ _) | (with_reducible refine Below.drew ?_) | (with_reducible refine below_drewN ?_ _) | ((with_reducible refine Below.alloc ?_ ?_ _); rotate_left; (focus (first | exact Nat.le_refl _ | omega | (simp; done) | (simp; omega) | (simp at *; omega)))) | ((with_reducible refine Below.setCell ?_ ?_ _); rotate_left; (focus (first | exact Nat.le_refl _ | omega | (simp; done) | (simp; omega) | (simp at *; omega)))))) (hbwc.mono (by (focus (first | exact Nat.le_refl _ | omega | (simp; done) | (simp; omega) | (simp at *; omega)))))))
      go_wp2
      go_roundg (8 - (k + 1))
      case measure => have := HM7.out; have := HK.out; omega
      case rel => exact ⟨k + 1, HK.out, rfl, by go_num, HBB.out.below jwc (by (focus (first | omega | (simp; done) | (simp; omega) | (simp at *; omega)))), hb3.trans (jwc.mono hb3.size), (by repeat (first | (with_reducible assumption) | (with_reducible exact Below.refl _ _) | (with_reducible refine Below.drew ?_) | (with_reducible refine below_drewN ?_ _) | ((with_reducible refine Below.alloc ?_ ?_ _); rotate_left; (focus (first | exact Nat.le_refl _ | omega | (simp; done) | (simp; omega) | (simp at *; omega)))) | ((with_reducible refine Below.setCell ?_ ?_ _); rotate_left; (focus (first | exact Nat.le_refl _ | omega | (simp; done) | (simp; omega) | (simp at *; omega))))))⟩

theorem mark_0 {u : Int} (hu : 0 ≤ u ∧ u ≤ 7) (h : u ≠ 0) : sameI (tuW 2 3 u) (tuH 2 3 u) 6 (tuF 2 3 u f6) 2 3 6 f6 = false := by
  have := mark_ne hu (v := 0) (by decide) h
  rw [f6_0] at this
  exact this

set_option maxHeartbeats 2000000 in
set_option maxRecDepth 100000 in
theorem Undone_ok (t : Int) (ht : 0 ≤ t ∧ t ≤ 7) (w : World) : Calls Try.prog 60 #[.int .i64 t] w fun e w' => e = .returned (.int .i64 (inF t)) ∧ Below w.heap.size w w' := by
  have HT := Lib.hid ht
  have hb := inF_bd ht
  obtain ⟨m, hm⟩ : ∃ m : Nat, (m : Int) = inF t := ⟨(inF t).toNat, by omega⟩
  have HM := Lib.hid hm
  have HM7 := Lib.hid (show m ≤ 7 by omega)
  clear ht hb hm
  go_enter Try.func60, Try.ntmps60
  go_wp2
  go_loopg [3] 8 (fun gk s3 wr => ∃ k : Nat, k ≤ m ∧ gk = 8 - k ∧ s3 = .int .i64 k ∧ Below w.heap.size w wr)
  case atStart => exact ⟨0, by omega, rfl, rfl, (by repeat (first | (with_reducible assumption) | (with_reducible exact Below.refl _ _) | (with_reducible refine Below.drew ?_) | (with_reducible refine below_drewN ?_ _) | ((with_reducible refine Below.alloc ?_ ?_ _); rotate_left; (focus (first | exact Nat.le_refl _ | omega | (simp; done) | (simp; omega) | (simp at *; omega)))) | ((with_reducible refine Below.setCell ?_ ?_ _); rotate_left; (focus (first | exact Nat.le_refl _ | omega | (simp; done) | (simp; omega) | (simp at *; omega))))))⟩
  case round =>
    obtain ⟨k, hk, rfl, rfl, hbel⟩ := hrel
    have hzr := hbel.size
    have hk8 : (k : Int) < 8 := by have := HM7.out; omega
    have HK0 := Lib.hid (show 0 ≤ (k : Int) ∧ (k : Int) ≤ 7 by omega)
    have HC := Lib.hid (turn_turn (p := f6) img6 HT.out HK0.out)
    go_wp2_with fail
    refine (marked_any _).mono ?_
    rintro e w1 ⟨g1, rfl, hg1, hrow, hbw1⟩
    have R1 := Lib.hid (Rd.of_row hrow)
    clear hrow
    have hzw1 := hbw1.size
    try simp at hzw1
    have kw1 : Below w.heap.size w w1 := Below.trans (by repeat (first | (with_reducible assumption) | (with_reducible exact Below.refl _ _) | (with_reducible refine Below.drew ?_) | (with_reducible refine below_drewN ?_ _) | ((with_reducible refine Below.alloc ?_ ?_ _); rotate_left; (focus (first | exact Nat.le_refl _ | omega | (simp; done) | (simp; omega) | (simp at *; omega)))) | ((with_reducible refine Below.setCell ?_ ?_ _); rotate_left; (focus (first | exact Nat.le_refl _ | omega | (simp; done) | (simp; omega) | (simp at *; omega)))))) (hbw1.mono (by (focus (first | exact Nat.le_refl _ | omega | (simp; done) | (simp; omega) | (simp at *; omega)))))
    have kzw1 := kw1.size
    go_wp2_with fail
    refine (Turned_ok (some ⟨g1, 0, none⟩) 6 6 2 3 t f6 _ img6 R1.out HT.out).mono ?_
    rintro e w2 ⟨g2, rfl, hg2, hrow, hbw2⟩
    have R2 := Lib.hid (Rd.of_row hrow)
    clear hrow
    have hzw2 := hbw2.size
    try simp at hzw2
    have kw2 : Below w.heap.size w w2 := Below.trans (by repeat (first | (with_reducible assumption) | (with_reducible exact Below.refl _ _) | (with_reducible refine Below.drew ?_) | (with_reducible refine below_drewN ?_ _) | ((with_reducible refine Below.alloc ?_ ?_ _); rotate_left; (focus (first | exact Nat.le_refl _ | omega | (simp; done) | (simp; omega) | (simp at *; omega)))) | ((with_reducible refine Below.setCell ?_ ?_ _); rotate_left; (focus (first | exact Nat.le_refl _ | omega | (simp; done) | (simp; omega) | (simp at *; omega)))))) (hbw2.mono (by (focus (first | exact Nat.le_refl _ | omega | (simp; done) | (simp; omega) | (simp at *; omega)))))
    have kzw2 := kw2.size
    go_wp2_with fail
    have hT := fun w h => Turned_ok (some ⟨g2, 0, none⟩) 6 6 (tuW 2 3 t) (tuH 2 3 t) k (tuF 2 3 t f6) w (tu_img img6) h HK0.out
    rw [(tu_co HT.out HK0.out).1, (tu_co HT.out HK0.out).2] at hT
    refine (hT _ R2.out).mono ?_
    rintro e w3 ⟨g3, rfl, hg3, hrow, hbw3⟩
    have R3 := rd_later ((Rd.of_row hrow).congr (g := fun i => .int .u8 (tuF 2 3 (coF t k) f6 i)) fun i hi => by rw [HC.out i hi])
    clear hrow hT
    have hzw3 := hbw3.size
    try simp at hzw3
    have kw3 : Below w.heap.size w w3 := Below.trans (by repeat (first | (with_reducible assumption) | (with_reducible exact Below.refl _ _) | (with_reducible refine Below.drew ?_) | (with_reducible refine below_drewN ?_ _) | ((with_reducible refine Below.alloc ?_ ?_ _); rotate_left; (focus (first | exact Nat.le_refl _ | omega | (simp; done) | (simp; omega) | (simp at *; omega)))) | ((with_reducible refine Below.setCell ?_ ?_ _); rotate_left; (focus (first | exact Nat.le_refl _ | omega | (simp; done) | (simp; omega) | (simp at *; omega)))))) (hbw3.mono (by (focus (first | exact Nat.le_refl _ | omega | (simp; done) | (simp; omega) | (simp at *; omega)))))
    have kzw3 := kw3.size
    go_wp2_with fail
    refine (marked_any _).mono ?_
    rintro e w4 ⟨g4, rfl, hg4, hrow, hbw4⟩
    have R4 := rd_later (Rd.of_row hrow)
    clear hrow
    have hzw4 := hbw4.size
    try simp at hzw4
    have kw4 : Below w.heap.size w w4 := Below.trans (by repeat (first | (with_reducible assumption) | (with_reducible exact Below.refl _ _) | (with_reducible refine Below.drew ?_) | (with_reducible refine below_drewN ?_ _) | ((with_reducible refine Below.alloc ?_ ?_ _); rotate_left; (focus (first | exact Nat.le_refl _ | omega | (simp; done) | (simp; omega) | (simp at *; omega)))) | ((with_reducible refine Below.setCell ?_ ?_ _); rotate_left; (focus (first | exact Nat.le_refl _ | omega | (simp; done) | (simp; omega) | (simp at *; omega)))))) (hbw4.mono (by (focus (first | exact Nat.le_refl _ | omega | (simp; done) | (simp; omega) | (simp at *; omega)))))
    have kzw4 := kw4.size
    have k34 : Below w3.heap.size w3 w4 := Below.trans (by repeat (first | (with_reducible assumption) | (with_reducible exact Below.refl _ _) | (with_reducible refine Below.drew ?_) | (with_reducible refine below_drewN ?_ _) | ((with_reducible refine Below.alloc ?_ ?_ _); rotate_left; (focus (first | exact Nat.le_refl _ | omega | (simp; done) | (simp; omega) | (simp at *; omega)))) | ((with_reducible refine Below.setCell ?_ ?_ _); rotate_left; (focus (first | exact Nat.le_refl _ | omega | (simp; done) | (simp; omega) | (simp at *; omega)))))) (hbw4.mono (by (focus (first | exact Nat.le_refl _ | omega | (simp; done) | (simp; omega) | (simp at *; omega)))))
    go_wp2_with fail
    by_cases hlt : k = m
    · have HZ : Hid (coF t k = 0) := Lib.hid (by rw [hlt, HM.out, co_in HT.out])
      have hS := fun w h1 h2 => SameImage_eq (some ⟨g3, 0, none⟩) (some ⟨g4, 0, none⟩) 6 6 6 2 3 f6 w h1 h2
      have R5 := R3
      rw [HZ.out, f6_0] at R5
      rw [HZ.out]
      refine (hS _ (R5.out _ (by repeat (first | (with_reducible assumption) | (with_reducible exact Below.refl _ _) | (with_reducible refine Below.drew ?_) | (with_reducible refine below_drewN ?_ _) | ((with_reducible refine Below.alloc ?_ ?_ _); rotate_left; (focus (first | exact Nat.le_refl _ | omega | (simp; done) | (simp; omega) | (simp at *; omega)))) | ((with_reducible refine Below.setCell ?_ ?_ _); rotate_left; (focus (first | exact Nat.le_refl _ | omega | (simp; done) | (simp; omega) | (simp at *; omega))))))) (R4.out _ (by repeat (first | (with_reducible assumption) | (with_reducible exact Below.refl _ _) | (with_reducible refine Below.drew ?_) | (with_reducible refine below_drewN ?_ _) | ((with_reducible refine Below.alloc ?_ ?_ _); rotate_left; (focus (first | exact Nat.le_refl _ | omega | (simp; done) | (simp; omega) | (simp at *; omega)))) | ((with_reducible refine Below.setCell ?_ ?_ _); rotate_left; (focus (first | exact Nat.le_refl _ | omega | (simp; done) | (simp; omega) | (simp at *; omega)))))))).mono ?_
      rintro e w5 ⟨rfl, hbw5⟩
      have hzw5 := hbw5.size
      try simp at hzw5
      have kw5 : Below w.heap.size w w5 := Below.trans (by repeat (first | (with_reducible assumption) | (with_reducible exact Below.refl _ _) | (with_reducible refine Below.drew ?_) | (with_reducible refine below_drewN ?_ _) | ((with_reducible refine Below.alloc ?_ ?_ _); rotate_left; (focus (first | exact Nat.le_refl _ | omega | (simp; done) | (simp; omega) | (simp at *; omega)))) | ((with_reducible refine Below.setCell ?_ ?_ _); rotate_left; (focus (first | exact Nat.le_refl _ | omega | (simp; done) | (simp; omega) | (simp at *; omega)))))) (hbw5.mono (by (focus (first | exact Nat.le_refl _ | omega | (simp; done) | (simp; omega) | (simp at *; omega)))))
      have kzw5 := kw5.size
      go_wp2
      go_ret
      exact ⟨by rw [← HM.out, ← hlt]; rfl, (by repeat (first | (with_reducible assumption) | (with_reducible exact Below.refl _ _) | (with_reducible refine Below.drew ?_) | (with_reducible refine below_drewN ?_ _) | ((with_reducible refine Below.alloc ?_ ?_ _); rotate_left; (focus (first | exact Nat.le_refl _ | omega | (simp; done) | (simp; omega) | (simp at *; omega)))) | ((with_reducible refine Below.setCell ?_ ?_ _); rotate_left; (focus (first | exact Nat.le_refl _ | omega | (simp; done) | (simp; omega) | (simp at *; omega))))))⟩
    · have HK := Lib.hid (show k + 1 ≤ m by omega)
      have HNE := Lib.hid (mark_0 (coF_bd HT.out HK0.out) (co_ne HT.out HK0.out.1 (by rw [← HM.out]; omega)))
      refine (SameImage_any _ _ 6 _ 6 _ _ _ _ _ _ _ _ (R3.out _ (by repeat (first | (with_reducible assumption) | (with_reducible exact Below.refl _ _) | (with_reducible refine Below.drew ?_) | (with_reducible refine below_drewN ?_ _) | ((with_reducible refine Below.alloc ?_ ?_ _); rotate_left; (focus (first | exact Nat.le_refl _ | omega | (simp; done) | (simp; omega) | (simp at *; omega)))) | ((with_reducible refine Below.setCell ?_ ?_ _); rotate_left; (focus (first | exact Nat.le_refl _ | omega | (simp; done) | (simp; omega) | (simp at *; omega))))))) (R4.out _ (by repeat (first | (with_reducible assumption) | (with_reducible exact Below.refl _ _) | (with_reducible refine Below.drew ?_) | (with_reducible refine below_drewN ?_ _) | ((with_reducible refine Below.alloc ?_ ?_ _); rotate_left; (focus (first | exact Nat.le_refl _ | omega | (simp; done) | (simp; omega) | (simp at *; omega)))) | ((with_reducible refine Below.setCell ?_ ?_ _); rotate_left; (focus (first | exact Nat.le_refl _ | omega | (simp; done) | (simp; omega) | (simp at *; omega)))))))).mono ?_
      rw [HNE.out]
      rintro e w5 ⟨rfl, hbw5⟩
      have hzw5 := hbw5.size
      try simp at hzw5
      have kw5 : Below w.heap.size w w5 := Below.trans (by repeat (first | (with_reducible assumption) | (with_reducible exact Below.refl _ _) | (with_reducible refine Below.drew ?_) | (with_reducible refine below_drewN ?_ _) | ((with_reducible refine Below.alloc ?_ ?_ _); rotate_left; (focus (first | exact Nat.le_refl _ | omega | (simp; done) | (simp; omega) | (simp at *; omega)))) | ((with_reducible refine Below.setCell ?_ ?_ _); rotate_left; (focus (first | exact Nat.le_refl _ | omega | (simp; done) | (simp; omega) | (simp at *; omega)))))) (hbw5.mono (by (focus (first | exact Nat.le_refl _ | omega | (simp; done) | (simp; omega) | (simp at *; omega)))))
      have kzw5 := kw5.size
      go_wp2
      go_roundg (8 - (k + 1))
      case measure => have := HM7.out; have := HK.out; omega
      case rel => exact ⟨k + 1, HK.out, rfl, by go_num, (by repeat (first | (with_reducible assumption) | (with_reducible exact Below.refl _ _) | (with_reducible refine Below.drew ?_) | (with_reducible refine below_drewN ?_ _) | ((with_reducible refine Below.alloc ?_ ?_ _); rotate_left; (focus (first | exact Nat.le_refl _ | omega | (simp; done) | (simp; omega) | (simp at *; omega)))) | ((with_reducible refine Below.setCell ?_ ?_ _); rotate_left; (focus (first | exact Nat.le_refl _ | omega | (simp; done) | (simp; omega) | (simp at *; omega))))))⟩

end Go.Proofs.Ytpdjiokmafoppaa
