/- distort.Inverse. No conditions. -/
import Derived.Test.YtpdjiokmafoppaaSmearP
namespace Go.Proofs.Ytpdjiokmafoppaa
open Go.RowKit

theorem Inverse_ok (t : Int) (ht : 0 ≤ t ∧ t ≤ 7) (w : World) : Calls Try.prog 58 #[.int .i64 t] w fun e w' => e = .returned (.tuple #[.int .i64 (inF t), fv 0 0]) ∧ Below w.heap.size w w' := by
  have t1 := inB_yes ht.1 ht.2
  have HT := Lib.hid ht
  have hb := inF_bd ht
  obtain ⟨m, hm⟩ : ∃ m : Nat, (m : Int) = inF t := ⟨(inF t).toNat, by omega⟩
  have HM := Lib.hid hm
  rw [← hm] at hb ⊢
  clear ht hm
  go_enter Try.func58, Try.ntmps58
  go_wp2_with fail
  refine (validTurn_any _ _).mono ?_
  rintro e w' ⟨rfl, rfl⟩
  go_wp2
  go_loopg [4] m (fun gk s wr => ∃ k : Nat, k ≤ m ∧ gk = m - k ∧ s = .int .i64 k ∧ wr = w.alloc (.cells #[.int .i64 0, .int .i64 0] 28))
  case atStart => exact ⟨0, by omega, rfl, rfl, rfl⟩
  case round =>
    obtain ⟨k, hk, rfl, rfl, rfl⟩ := hrel
    have hk8 : (k : Int) < 8 := by omega
    by_cases hlt : k < m
    · have HK := Lib.hid (show k + 1 ≤ m from hlt)
      have t2 : (coF t k != 0) = true := by simpa using co_ne (u := (k : Int)) HT.out (by omega) (by have := HM.out; omega)
      go_wp2_with fail
      refine (compose_any _ _ HT.out ⟨by omega, by omega⟩ _).mono ?_
      rintro e w' ⟨rfl, rfl⟩
      go_wp2
      go_roundg (m - (k + 1))
      case measure => have := HK.out; omega
      case rel => exact ⟨k + 1, HK.out, rfl, by go_num, rfl⟩
    · obtain rfl : k = m := by omega
      have t2 : (coF t k != 0) = false := by rw [HM.out, co_in HT.out]; rfl
      go_wp2_with fail
      refine (compose_any _ _ HT.out ⟨by omega, by omega⟩ _).mono ?_
      rintro e w' ⟨rfl, rfl⟩
      go_wp2
      refine bodyPost_ret (v := (.tuple #[.int .i64 k, fv 0 0])) (by simp [results, Try.results58, go_sem, *]) rfl ?_
      exact ⟨rfl, (by repeat (first | (with_reducible assumption) | (with_reducible exact Below.refl _ _) | (with_reducible refine Below.drew ?_) | (with_reducible refine below_drewN ?_ _) | ((with_reducible refine Below.alloc ?_ ?_ _); rotate_left; (focus (first | exact Nat.le_refl _ | omega | (simp; done) | (simp; omega) | (simp at *; omega)))) | ((with_reducible refine Below.setCell ?_ ?_ _); rotate_left; (focus (first | exact Nat.le_refl _ | omega | (simp; done) | (simp; omega) | (simp at *; omega))))))⟩

theorem Inverse_bad (t : Int) (ht : t < 0 ∨ 7 < t) (w : World) : Calls Try.prog 58 #[.int .i64 t] w fun e w' => e = .returned (.tuple #[.int .i64 0, fv 4 (-1)]) ∧ Below w.heap.size w w' := by
  have t1 := inB_no ht
  clear ht
  go_enter Try.func58, Try.ntmps58
  go_wp2_with fail
  refine (validTurn_any _ _).mono ?_
  rintro e w' ⟨rfl, rfl⟩
  go_wp2_with fail
  refine (dfault_any _ _ _).mono ?_
  rintro e w1 ⟨rfl, hbw1⟩
  obtain ⟨hcw1, hfw1⟩ := bcell hbw1
  have hzw1 := hbw1.size
  try simp at hzw1
  have kw1 : Below w.heap.size w w1 := Below.trans (by repeat (first | (with_reducible assumption) | (with_reducible exact Below.refl _ _) | (with_reducible refine Below.drew ?_) | (with_reducible refine below_drewN ?_ _) | ((with_reducible refine Below.alloc ?_ ?_ _); rotate_left; (focus (first | exact Nat.le_refl _ | omega | (simp; done) | (simp; omega) | (simp at *; omega)))) | ((with_reducible refine Below.setCell ?_ ?_ _); rotate_left; (focus (first | exact Nat.le_refl _ | omega | (simp; done) | (simp; omega) | (simp at *; omega)))))) (hbw1.mono (by (focus (first | exact Nat.le_refl _ | omega | (simp; done) | (simp; omega) | (simp at *; omega)))))
  have kzw1 := kw1.size
  have lw1w0 : w.heap.size < w1.heap.size := by omega
  go_wp2
  refine bodyPost_ret (v := (.tuple #[.int .i64 0, fv 4 (-1)])) (by simp [results, Try.results58, go_sem, *]) rfl ?_
  exact ⟨rfl, (by repeat (first | (with_reducible assumption) | (with_reducible exact Below.refl _ _) | (with_reducible refine Below.drew ?_) | (with_reducible refine below_drewN ?_ _) | ((with_reducible refine Below.alloc ?_ ?_ _); rotate_left; (focus (first | exact Nat.le_refl _ | omega | (simp; done) | (simp; omega) | (simp at *; omega)))) | ((with_reducible refine Below.setCell ?_ ?_ _); rotate_left; (focus (first | exact Nat.le_refl _ | omega | (simp; done) | (simp; omega) | (simp at *; omega))))))⟩

end Go.Proofs.Ytpdjiokmafoppaa
