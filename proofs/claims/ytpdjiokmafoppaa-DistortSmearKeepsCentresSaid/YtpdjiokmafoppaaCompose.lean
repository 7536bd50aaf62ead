/- compose and Compose of distort. No conditions. -/
import Derived.Test.YtpdjiokmafoppaaTurn
namespace Go.Proofs.Ytpdjiokmafoppaa
open Go.RowKit

/-- The turn that has the effect of two. -/
def coF (s t : Int) : Int := ((s / 4 + t / 4) % 2) * 4 + ((if 4 ≤ t then 4 - s % 4 else s) + t) % 4
theorem coF_bd {s t : Int} (_hs : 0 ≤ s ∧ s ≤ 7) (ht : 0 ≤ t ∧ t ≤ 7) : 0 ≤ coF s t ∧ coF s t ≤ 7 := by
  unfold coF; split <;> omega

theorem compose_any (s t : Int) (hs : 0 ≤ s ∧ s ≤ 7) (ht : 0 ≤ t ∧ t ≤ 7) (w : World) : Calls Try.prog 118 #[.int .i64 s, .int .i64 t] w fun e w' => e = .returned (.int .i64 (coF s t)) ∧ w = w' := by
  have u1 : s.tdiv 4 = s / 4 := Int.tdiv_eq_ediv_of_nonneg (by omega)
  have u2 : t.tdiv 4 = t / 4 := Int.tdiv_eq_ediv_of_nonneg (by omega)
  have u3 : (s / 4 + t / 4).tmod 2 = (s / 4 + t / 4) % 2 := Int.tmod_eq_emod_of_nonneg (by omega)
  have u4 : s.tmod 4 = s % 4 := Int.tmod_eq_emod_of_nonneg (by omega)
  by_cases h : 4 ≤ t
  · have HF : Hid (coF s t = ((s / 4 + t / 4) % 2) * 4 + (4 - s % 4 + t) % 4) := Lib.hid (by unfold coF; rw [if_pos h])
    have u5 : (4 - s % 4 + t).tmod 4 = (4 - s % 4 + t) % 4 := Int.tmod_eq_emod_of_nonneg (by omega)
    go_enter Try.func118, Try.ntmps118
    go_wp2
    go_ret
    exact ⟨by rw [HF.out]; go_num, rfl⟩
  · have HF : Hid (coF s t = ((s / 4 + t / 4) % 2) * 4 + (s + t) % 4) := Lib.hid (by unfold coF; rw [if_neg h])
    have u5 : (s + t).tmod 4 = (s + t) % 4 := Int.tmod_eq_emod_of_nonneg (by omega)
    go_enter Try.func118, Try.ntmps118
    go_wp2
    go_ret
    exact ⟨by rw [HF.out]; go_num, rfl⟩

theorem Compose_ok (s t : Int) (hs : 0 ≤ s ∧ s ≤ 7) (ht : 0 ≤ t ∧ t ≤ 7) (w : World) : Calls Try.prog 57 #[.int .i64 s, .int .i64 t] w fun e w' => e = .returned (.tuple #[.int .i64 (coF s t), fv 0 0]) ∧ Below w.heap.size w w' := by
  have t1 := inB_yes hs.1 hs.2
  have t2 := inB_yes ht.1 ht.2
  have HS := Lib.hid hs
  have HT := Lib.hid ht
  clear hs ht
  go_enter Try.func57, Try.ntmps57
  go_wp2_with fail
  refine (validTurn_any _ _).mono ?_
  rintro e w' ⟨rfl, rfl⟩
  go_wp2_with fail
  refine (validTurn_any _ _).mono ?_
  rintro e w' ⟨rfl, rfl⟩
  go_wp2_with fail
  refine (compose_any _ _ HS.out HT.out _).mono ?_
  rintro e w' ⟨rfl, rfl⟩
  go_wp2
  refine bodyPost_ret (v := (.tuple #[.int .i64 (coF s t), fv 0 0])) (by simp [results, Try.results57, go_sem, *]) rfl ?_
  exact ⟨rfl, (by repeat (first | (with_reducible assumption) | (with_reducible exact Below.refl _ _) | (with_reducible refine Below.drew ?_) | (with_reducible refine below_drewN ?_ _) | ((with_reducible refine Below.alloc ?_ ?_ _); rotate_left; (focus (first | exact Nat.le_refl _ | omega | (simp; done) | (simp; omega) | (simp at *; omega)))) | ((with_reducible refine Below.setCell ?_ ?_ _); rotate_left; (focus (first | exact Nat.le_refl _ | omega | (simp; done) | (simp; omega) | (simp at *; omega))))))⟩

theorem Compose_s (s t : Int) (hs : s < 0 ∨ 7 < s) (w : World) : Calls Try.prog 57 #[.int .i64 s, .int .i64 t] w fun e w' => e = .returned (.tuple #[.int .i64 0, fv 4 (-1)]) ∧ Below w.heap.size w w' := by
  have t1 := inB_no hs
  clear hs
  go_enter Try.func57, Try.ntmps57
  go_wp2_with fail
  refine (validTurn_any _ _).mono ?_
  rintro e w' ⟨rfl, rfl⟩
  go_wp2_with fail
  refine (dfault_any _ _ _).mono ?_
  rintro e w1 ⟨rfl, hbw1⟩
  obtain ⟨hcw1, hfw1⟩ := bcell hbw1
  have hzw1 := hbw1.size
  try simp at hzw1
  have kw1 : Below w.heap.size w w1 := Below.trans (by repeat (first | (with_reducible assumption) | (with_reducible exact Below.refl _ _) | (with_reducible refine Below.drew ?_) | (with_reducible refine below_drewN ?_ _) | ((with_reducible refine Below.alloc ?_ ?_ _); rotate_left; (focus (first | exact Nat.le_refl _ | omega | (simp; done) | (simp; omega) | (simp at *; omega)))) | ((with_reducible refine Below.setCell ?_ ?_ _); rotate_left; (focus (first | exact Nat.le_refl _ | omega | (simp; done) | (simp; omega) | (simp at *; omega)))))) (hbw1.mono (by (focus (first | exact Nat.le_refl _ | omega | (simp; done) | (simp; omega) | (simp at *; omega)))))
  have kzw1 := kw1.size
  have lw1w0 : w.heap.size < w1.heap.size := by omega
  go_wp2
  refine bodyPost_ret (v := (.tuple #[.int .i64 0, fv 4 (-1)])) (by simp [results, Try.results57, go_sem, *]) rfl ?_
  exact ⟨rfl, (by repeat (first | (with_reducible assumption) | (with_reducible exact Below.refl _ _) | (with_reducible refine Below.drew ?_) | (with_reducible refine below_drewN ?_ _) | ((with_reducible refine Below.alloc ?_ ?_ _); rotate_left; (focus (first | exact Nat.le_refl _ | omega | (simp; done) | (simp; omega) | (simp at *; omega)))) | ((with_reducible refine Below.setCell ?_ ?_ _); rotate_left; (focus (first | exact Nat.le_refl _ | omega | (simp; done) | (simp; omega) | (simp at *; omega))))))⟩

theorem Compose_t (s t : Int) (hs : 0 ≤ s ∧ s ≤ 7) (ht : t < 0 ∨ 7 < t) (w : World) : Calls Try.prog 57 #[.int .i64 s, .int .i64 t] w fun e w' => e = .returned (.tuple #[.int .i64 0, fv 4 (-2)]) ∧ Below w.heap.size w w' := by
  have t1 := inB_yes hs.1 hs.2
  have t2 := inB_no ht
  clear hs ht
  go_enter Try.func57, Try.ntmps57
  go_wp2_with fail
  refine (validTurn_any _ _).mono ?_
  rintro e w' ⟨rfl, rfl⟩
  go_wp2_with fail
  refine (validTurn_any _ _).mono ?_
  rintro e w' ⟨rfl, rfl⟩
  go_wp2_with fail
  refine (dfault_any _ _ _).mono ?_
  rintro e w1 ⟨rfl, hbw1⟩
  obtain ⟨hcw1, hfw1⟩ := bcell hbw1
  have hzw1 := hbw1.size
  try simp at hzw1
  have kw1 : Below w.heap.size w w1 := Below.trans (by repeat (first | (with_reducible assumption) | (with_reducible exact Below.refl _ _) | (with_reducible refine Below.drew ?_) | (with_reducible refine below_drewN ?_ _) | ((with_reducible refine Below.alloc ?_ ?_ _); rotate_left; (focus (first | exact Nat.le_refl _ | omega | (simp; done) | (simp; omega) | (simp at *; omega)))) | ((with_reducible refine Below.setCell ?_ ?_ _); rotate_left; (focus (first | exact Nat.le_refl _ | omega | (simp; done) | (simp; omega) | (simp at *; omega)))))) (hbw1.mono (by (focus (first | exact Nat.le_refl _ | omega | (simp; done) | (simp; omega) | (simp at *; omega)))))
  have kzw1 := kw1.size
  have lw1w0 : w.heap.size < w1.heap.size := by omega
  go_wp2
  refine bodyPost_ret (v := (.tuple #[.int .i64 0, fv 4 (-2)])) (by simp [results, Try.results57, go_sem, *]) rfl ?_
  exact ⟨rfl, (by repeat (first | (with_reducible assumption) | (with_reducible exact Below.refl _ _) | (with_reducible refine Below.drew ?_) | (with_reducible refine below_drewN ?_ _) | ((with_reducible refine Below.alloc ?_ ?_ _); rotate_left; (focus (first | exact Nat.le_refl _ | omega | (simp; done) | (simp; omega) | (simp at *; omega)))) | ((with_reducible refine Below.setCell ?_ ?_ _); rotate_left; (focus (first | exact Nat.le_refl _ | omega | (simp; done) | (simp; omega) | (simp at *; omega))))))⟩

end Go.Proofs.Ytpdjiokmafoppaa
