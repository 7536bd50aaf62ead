/- The two checks of a page's dimensions and levels (ref6.GridFault, page.Validate) return the one fault 'gridF'. Conditions: the cells read as bytes; the slice is no longer than Go allows. -/
import Derived.Test.YtpdjiokmafoppaaGrid
namespace Go.Proofs.Ytpdjiokmafoppaa
open Go.RowKit

theorem rd_later {w : World} {A : Option Addr} {n : Nat} {f : Nat → Value} (h : Rd w A n f) : Hid (∀ W, Below w.heap.size w W → Rd W A n f) := Lib.hid fun _ hb => h.below hb

set_option maxHeartbeats 1000000 in
theorem GridFault_any (A : Option Addr) (n c : Nat) (p : Nat → Int) (L R C : Int) (w : World) (hn : n ≤ maxLen) (hp : Byt p) (hr : RdB w A n p) :
    Calls Try.prog 89 #[gv L R C A n c] w fun e w' => e = .returned (fv (gridF L R C n p).1 (gridF L R C n p).2) ∧ Below w.heap.size w w' := by
  have H2 := rd_later hr
  clear hr
  by_cases hL : L = 2 ∨ L = 4
  · obtain ⟨r1, r2, r0⟩ := rowsOf_lv hL
    by_cases hR : R = rowsOf L
    · have tR : 53 ≤ R ∧ R ≤ 85 := by omega
      have t1 : (R != rowsOf L) = false := by simp [hR]
      by_cases hC : C = 58
      · have t2 : (C != 58) = false := by simp [hC]
        by_cases hN : (n : Int) = R * 58
        · have HF := Lib.hid (gridF_5 (p := p) hL hR hC hN)
          have t3 : ((n : Int) != R * 58) = false := by simp [hN]
          clear hL hR hC hN
          go_enter Try.func89, Try.ntmps89
          go_wp2_with fail
          refine (RowsOf_any _ _).mono ?_
          rintro e w' ⟨rfl, rfl⟩
          go_wp2_with fail
          go_quiet ((go_at_call 148; exact quiet_left (RowsOf_any _ _)))
          go_wp2_with fail
          refine (CellsFault_any A n c p L _ hn hp (H2.out _ (by repeat (first | (with_reducible assumption) | (with_reducible exact Below.refl _ _) | (with_reducible refine Below.drew ?_) | (with_reducible refine below_drewN ?_ _) | ((with_reducible refine Below.alloc ?_ ?_ _); rotate_left; (focus (first | exact Nat.le_refl _ | omega | (simp; done) | (simp; omega) | (simp at *; omega)))) | ((with_reducible refine Below.setCell ?_ ?_ _); rotate_left; (focus (first | exact Nat.le_refl _ | omega | (simp; done) | (simp; omega) | (simp at *; omega)))))))).mono ?_
          rintro e w1 ⟨rfl, hbw1⟩
          obtain ⟨hcw1, hfw1⟩ := bcell hbw1
          have hzw1 := hbw1.size
          try simp at hzw1
          have kw1 : Below w.heap.size w w1 := Below.trans (by repeat (first | (with_reducible assumption) | (with_reducible exact Below.refl _ _) | (with_reducible refine Below.drew ?_) | (with_reducible refine below_drewN ?_ _) | ((with_reducible refine Below.alloc ?_ ?_ _); rotate_left; (focus (first | exact Nat.le_refl _ | omega | (simp; done) | (simp; omega) | (simp at *; omega)))) | ((with_reducible refine Below.setCell ?_ ?_ _); rotate_left; (focus (first | exact Nat.le_refl _ | omega | (simp; done) | (simp; omega) | (simp at *; omega)))))) (hbw1.mono (by (focus (first | exact Nat.le_refl _ | omega | (simp; done) | (simp; omega) | (simp at *; omega)))))
          have kzw1 := kw1.size
          go_wp2
          refine bodyPost_ret (v := (fv (cellsF p L n).1 (cellsF p L n).2)) (by simp [results, Try.results89, go_sem, *]) rfl ?_
          exact ⟨by rw [HF.out], (by repeat (first | (with_reducible assumption) | (with_reducible exact Below.refl _ _) | (with_reducible refine Below.drew ?_) | (with_reducible refine below_drewN ?_ _) | ((with_reducible refine Below.alloc ?_ ?_ _); rotate_left; (focus (first | exact Nat.le_refl _ | omega | (simp; done) | (simp; omega) | (simp at *; omega)))) | ((with_reducible refine Below.setCell ?_ ?_ _); rotate_left; (focus (first | exact Nat.le_refl _ | omega | (simp; done) | (simp; omega) | (simp at *; omega))))))⟩
        · have HF := Lib.hid (gridF_4 (p := p) hL hR hC hN)
          have t3 : ((n : Int) != R * 58) = true := by simp [hN]
          clear hL hR hC hN
          go_enter Try.func89, Try.ntmps89
          go_wp2_with fail
          refine (RowsOf_any _ _).mono ?_
          rintro e w' ⟨rfl, rfl⟩
          go_wp2_with fail
          go_quiet ((go_at_call 148; exact quiet_left (RowsOf_any _ _)))
          go_wp2_with fail
          refine (At_any _ _ _).mono ?_
          rintro e w1 ⟨rfl, hbw1⟩
          obtain ⟨hcw1, hfw1⟩ := bcell hbw1
          have hzw1 := hbw1.size
          try simp at hzw1
          have kw1 : Below w.heap.size w w1 := Below.trans (by repeat (first | (with_reducible assumption) | (with_reducible exact Below.refl _ _) | (with_reducible refine Below.drew ?_) | (with_reducible refine below_drewN ?_ _) | ((with_reducible refine Below.alloc ?_ ?_ _); rotate_left; (focus (first | exact Nat.le_refl _ | omega | (simp; done) | (simp; omega) | (simp at *; omega)))) | ((with_reducible refine Below.setCell ?_ ?_ _); rotate_left; (focus (first | exact Nat.le_refl _ | omega | (simp; done) | (simp; omega) | (simp at *; omega)))))) (hbw1.mono (by (focus (first | exact Nat.le_refl _ | omega | (simp; done) | (simp; omega) | (simp at *; omega)))))
          have kzw1 := kw1.size
          go_wp2
          refine bodyPost_ret (v := (fv 9 (-4))) (by simp [results, Try.results89, go_sem, *]) rfl ?_
          exact ⟨by rw [HF.out], (by repeat (first | (with_reducible assumption) | (with_reducible exact Below.refl _ _) | (with_reducible refine Below.drew ?_) | (with_reducible refine below_drewN ?_ _) | ((with_reducible refine Below.alloc ?_ ?_ _); rotate_left; (focus (first | exact Nat.le_refl _ | omega | (simp; done) | (simp; omega) | (simp at *; omega)))) | ((with_reducible refine Below.setCell ?_ ?_ _); rotate_left; (focus (first | exact Nat.le_refl _ | omega | (simp; done) | (simp; omega) | (simp at *; omega))))))⟩
      · have HF := Lib.hid (gridF_3 (n := n) (p := p) hL hR hC)
        have t2 : (C != 58) = true := by simp [hC]
        clear hL hR hC
        go_enter Try.func89, Try.ntmps89
        go_wp2_with fail
        refine (RowsOf_any _ _).mono ?_
        rintro e w' ⟨rfl, rfl⟩
        go_wp2_with fail
        go_quiet ((go_at_call 148; exact quiet_left (RowsOf_any _ _)))
        go_wp2_with fail
        refine (At_any _ _ _).mono ?_
        rintro e w1 ⟨rfl, hbw1⟩
        obtain ⟨hcw1, hfw1⟩ := bcell hbw1
        have hzw1 := hbw1.size
        try simp at hzw1
        have kw1 : Below w.heap.size w w1 := Below.trans (by repeat (first | (with_reducible assumption) | (with_reducible exact Below.refl _ _) | (with_reducible refine Below.drew ?_) | (with_reducible refine below_drewN ?_ _) | ((with_reducible refine Below.alloc ?_ ?_ _); rotate_left; (focus (first | exact Nat.le_refl _ | omega | (simp; done) | (simp; omega) | (simp at *; omega)))) | ((with_reducible refine Below.setCell ?_ ?_ _); rotate_left; (focus (first | exact Nat.le_refl _ | omega | (simp; done) | (simp; omega) | (simp at *; omega)))))) (hbw1.mono (by (focus (first | exact Nat.le_refl _ | omega | (simp; done) | (simp; omega) | (simp at *; omega)))))
        have kzw1 := kw1.size
        go_wp2
        refine bodyPost_ret (v := (fv 6 (-3))) (by simp [results, Try.results89, go_sem, *]) rfl ?_
        exact ⟨by rw [HF.out], (by repeat (first | (with_reducible assumption) | (with_reducible exact Below.refl _ _) | (with_reducible refine Below.drew ?_) | (with_reducible refine below_drewN ?_ _) | ((with_reducible refine Below.alloc ?_ ?_ _); rotate_left; (focus (first | exact Nat.le_refl _ | omega | (simp; done) | (simp; omega) | (simp at *; omega)))) | ((with_reducible refine Below.setCell ?_ ?_ _); rotate_left; (focus (first | exact Nat.le_refl _ | omega | (simp; done) | (simp; omega) | (simp at *; omega))))))⟩
    · have HF := Lib.hid (gridF_2 (C := C) (n := n) (p := p) hL hR)
      have t1 : (R != rowsOf L) = true := by simp [hR]
      clear hL hR
      go_enter Try.func89, Try.ntmps89
      go_wp2_with fail
      refine (RowsOf_any _ _).mono ?_
      rintro e w' ⟨rfl, rfl⟩
      go_wp2_with fail
      go_quiet ((go_at_call 148; exact quiet_left (RowsOf_any _ _)))
      go_wp2_with fail
      refine (At_any _ _ _).mono ?_
      rintro e w1 ⟨rfl, hbw1⟩
      obtain ⟨hcw1, hfw1⟩ := bcell hbw1
      have hzw1 := hbw1.size
      try simp at hzw1
      have kw1 : Below w.heap.size w w1 := Below.trans (by repeat (first | (with_reducible assumption) | (with_reducible exact Below.refl _ _) | (with_reducible refine Below.drew ?_) | (with_reducible refine below_drewN ?_ _) | ((with_reducible refine Below.alloc ?_ ?_ _); rotate_left; (focus (first | exact Nat.le_refl _ | omega | (simp; done) | (simp; omega) | (simp at *; omega)))) | ((with_reducible refine Below.setCell ?_ ?_ _); rotate_left; (focus (first | exact Nat.le_refl _ | omega | (simp; done) | (simp; omega) | (simp at *; omega)))))) (hbw1.mono (by (focus (first | exact Nat.le_refl _ | omega | (simp; done) | (simp; omega) | (simp at *; omega)))))
      have kzw1 := kw1.size
      go_wp2
      refine bodyPost_ret (v := (fv 6 (-2))) (by simp [results, Try.results89, go_sem, *]) rfl ?_
      exact ⟨by rw [HF.out], (by repeat (first | (with_reducible assumption) | (with_reducible exact Below.refl _ _) | (with_reducible refine Below.drew ?_) | (with_reducible refine below_drewN ?_ _) | ((with_reducible refine Below.alloc ?_ ?_ _); rotate_left; (focus (first | exact Nat.le_refl _ | omega | (simp; done) | (simp; omega) | (simp at *; omega)))) | ((with_reducible refine Below.setCell ?_ ?_ _); rotate_left; (focus (first | exact Nat.le_refl _ | omega | (simp; done) | (simp; omega) | (simp at *; omega))))))⟩
  · have HF := Lib.hid (gridF_1 (R := R) (C := C) (n := n) (p := p) (by omega : L ≠ 2 ∧ L ≠ 4))
    have t1 : (rowsOf L == 0) = true := by unfold rowsOf; rw [if_neg (by omega), if_neg (by omega)]; rfl
    clear hL
    go_enter Try.func89, Try.ntmps89
    go_wp2_with fail
    refine (RowsOf_any _ _).mono ?_
    rintro e w' ⟨rfl, rfl⟩
    go_wp2_with fail
    refine (At_any _ _ _).mono ?_
    rintro e w1 ⟨rfl, hbw1⟩
    obtain ⟨hcw1, hfw1⟩ := bcell hbw1
    have hzw1 := hbw1.size
    try simp at hzw1
    have kw1 : Below w.heap.size w w1 := Below.trans (by repeat (first | (with_reducible assumption) | (with_reducible exact Below.refl _ _) | (with_reducible refine Below.drew ?_) | (with_reducible refine below_drewN ?_ _) | ((with_reducible refine Below.alloc ?_ ?_ _); rotate_left; (focus (first | exact Nat.le_refl _ | omega | (simp; done) | (simp; omega) | (simp at *; omega)))) | ((with_reducible refine Below.setCell ?_ ?_ _); rotate_left; (focus (first | exact Nat.le_refl _ | omega | (simp; done) | (simp; omega) | (simp at *; omega)))))) (hbw1.mono (by (focus (first | exact Nat.le_refl _ | omega | (simp; done) | (simp; omega) | (simp at *; omega)))))
    have kzw1 := kw1.size
    go_wp2
    refine bodyPost_ret (v := (fv 4 (-1))) (by simp [results, Try.results89, go_sem, *]) rfl ?_
    exact ⟨by rw [HF.out], (by repeat (first | (with_reducible assumption) | (with_reducible exact Below.refl _ _) | (with_reducible refine Below.drew ?_) | (with_reducible refine below_drewN ?_ _) | ((with_reducible refine Below.alloc ?_ ?_ _); rotate_left; (focus (first | exact Nat.le_refl _ | omega | (simp; done) | (simp; omega) | (simp at *; omega)))) | ((with_reducible refine Below.setCell ?_ ?_ _); rotate_left; (focus (first | exact Nat.le_refl _ | omega | (simp; done) | (simp; omega) | (simp at *; omega))))))⟩

theorem lvB_yes {L : Int} (h : L = 2 ∨ L = 4) : lvB L = true := by simp [lvB, h]
theorem lvB_no {L : Int} (h : ¬(L = 2 ∨ L = 4)) : lvB L = false := by simp only [not_or] at h; simp [lvB, h]
theorem cellsF_hit {p : Nat → Int} {L : Int} {n : Nat} (h : 0 ≤ hiC p L n) : cellsF p L n = (4, hiC p L n) := by unfold cellsF; rw [if_pos h]
theorem cellsF_miss {p : Nat → Int} {L : Int} {n : Nat} (h : ¬ 0 ≤ hiC p L n) : cellsF p L n = (0, 0) := by unfold cellsF; rw [if_neg h]

set_option maxHeartbeats 1000000 in
theorem pValidate_any (A : Option Addr) (n c : Nat) (p : Nat → Int) (L R C : Int) (w : World) (hn : n ≤ maxLen) (hp : Byt p) (hr : RdB w A n p) :
    Calls Try.prog 93 #[gv L R C A n c] w fun e w' => e = .returned (fv (gridF L R C n p).1 (gridF L R C n p).2) ∧ Below w.heap.size w w' := by
  have H2 := rd_later hr
  clear hr
  by_cases hL : L = 2 ∨ L = 4
  · obtain ⟨r1, r2, r0⟩ := rowsOf_lv hL
    have tL := lvB_yes hL
    have HL := Lib.hid hL
    by_cases hR : R = rowsOf L
    · have tR : 53 ≤ R ∧ R ≤ 85 := by omega
      have t1 : (R != rowsOf L) = false := by simp [hR]
      by_cases hC : C = 58
      · have t2 : (C != 58) = false := by simp [hC]
        by_cases hN : (n : Int) = R * 58
        · have HF := Lib.hid (gridF_5 (p := p) hL hR hC hN)
          have t3 : ((n : Int) != R * C) = false := by simp [hN, hC]
          have tC : 0 ≤ R * C ∧ R * C ≤ 10000 := by rw [hC]; omega
          clear hL hR hC hN
          by_cases hh : 0 ≤ hiC p L n
          · have HG := Lib.hid (cellsF_hit hh)
            go_enter Try.func93, Try.ntmps93
            go_wp2_with fail
            refine (validLevels_any _ _).mono ?_
            rintro e w' ⟨rfl, rfl⟩
            go_wp2_with fail
            go_quiet ((go_at_call 153; exact quiet_left (rows_any _ HL.out _)))
            go_wp2_with fail
            refine (tooHigh_any A n c p L _ hn hp (H2.out _ (by repeat (first | (with_reducible assumption) | (with_reducible exact Below.refl _ _) | (with_reducible refine Below.drew ?_) | (with_reducible refine below_drewN ?_ _) | ((with_reducible refine Below.alloc ?_ ?_ _); rotate_left; (focus (first | exact Nat.le_refl _ | omega | (simp; done) | (simp; omega) | (simp at *; omega)))) | ((with_reducible refine Below.setCell ?_ ?_ _); rotate_left; (focus (first | exact Nat.le_refl _ | omega | (simp; done) | (simp; omega) | (simp at *; omega)))))))).mono ?_
            rintro e w1 ⟨rfl, hbw1⟩
            obtain ⟨hcw1, hfw1⟩ := bcell hbw1
            have hzw1 := hbw1.size
            try simp at hzw1
            have kw1 : Below w.heap.size w w1 := Below.trans (by repeat (first | (with_reducible assumption) | (with_reducible exact Below.refl _ _) | (with_reducible refine Below.drew ?_) | (with_reducible refine below_drewN ?_ _) | ((with_reducible refine Below.alloc ?_ ?_ _); rotate_left; (focus (first | exact Nat.le_refl _ | omega | (simp; done) | (simp; omega) | (simp at *; omega)))) | ((with_reducible refine Below.setCell ?_ ?_ _); rotate_left; (focus (first | exact Nat.le_refl _ | omega | (simp; done) | (simp; omega) | (simp at *; omega)))))) (hbw1.mono (by (focus (first | exact Nat.le_refl _ | omega | (simp; done) | (simp; omega) | (simp at *; omega)))))
            have kzw1 := kw1.size
            have lw1w0 : w.heap.size < w1.heap.size := by omega
            have lw1w1 : w.heap.size + 1 < w1.heap.size := by omega
            go_wp2_with fail
            refine (pfault_any _ _ _).mono ?_
            rintro e w2 ⟨rfl, hbw2⟩
            obtain ⟨hcw2, hfw2⟩ := bcell hbw2
            have hzw2 := hbw2.size
            try simp at hzw2
            have kw2 : Below w.heap.size w w2 := Below.trans (by repeat (first | (with_reducible assumption) | (with_reducible exact Below.refl _ _) | (with_reducible refine Below.drew ?_) | (with_reducible refine below_drewN ?_ _) | ((with_reducible refine Below.alloc ?_ ?_ _); rotate_left; (focus (first | exact Nat.le_refl _ | omega | (simp; done) | (simp; omega) | (simp at *; omega)))) | ((with_reducible refine Below.setCell ?_ ?_ _); rotate_left; (focus (first | exact Nat.le_refl _ | omega | (simp; done) | (simp; omega) | (simp at *; omega)))))) (hbw2.mono (by (focus (first | exact Nat.le_refl _ | omega | (simp; done) | (simp; omega) | (simp at *; omega)))))
            have kzw2 := kw2.size
            go_wp2
            refine bodyPost_ret (v := (fv 4 (hiC p L n))) (by simp [results, Try.results93, go_sem, *]) rfl ?_
            exact ⟨by rw [HF.out, HG.out], (by repeat (first | (with_reducible assumption) | (with_reducible exact Below.refl _ _) | (with_reducible refine Below.drew ?_) | (with_reducible refine below_drewN ?_ _) | ((with_reducible refine Below.alloc ?_ ?_ _); rotate_left; (focus (first | exact Nat.le_refl _ | omega | (simp; done) | (simp; omega) | (simp at *; omega)))) | ((with_reducible refine Below.setCell ?_ ?_ _); rotate_left; (focus (first | exact Nat.le_refl _ | omega | (simp; done) | (simp; omega) | (simp at *; omega))))))⟩
          · have HG := Lib.hid (cellsF_miss hh)
            go_enter Try.func93, Try.ntmps93
            go_wp2_with fail
            refine (validLevels_any _ _).mono ?_
            rintro e w' ⟨rfl, rfl⟩
            go_wp2_with fail
            go_quiet ((go_at_call 153; exact quiet_left (rows_any _ HL.out _)))
            go_wp2_with fail
            refine (tooHigh_any A n c p L _ hn hp (H2.out _ (by repeat (first | (with_reducible assumption) | (with_reducible exact Below.refl _ _) | (with_reducible refine Below.drew ?_) | (with_reducible refine below_drewN ?_ _) | ((with_reducible refine Below.alloc ?_ ?_ _); rotate_left; (focus (first | exact Nat.le_refl _ | omega | (simp; done) | (simp; omega) | (simp at *; omega)))) | ((with_reducible refine Below.setCell ?_ ?_ _); rotate_left; (focus (first | exact Nat.le_refl _ | omega | (simp; done) | (simp; omega) | (simp at *; omega)))))))).mono ?_
            rintro e w1 ⟨rfl, hbw1⟩
            obtain ⟨hcw1, hfw1⟩ := bcell hbw1
            have hzw1 := hbw1.size
            try simp at hzw1
            have kw1 : Below w.heap.size w w1 := Below.trans (by repeat (first | (with_reducible assumption) | (with_reducible exact Below.refl _ _) | (with_reducible refine Below.drew ?_) | (with_reducible refine below_drewN ?_ _) | ((with_reducible refine Below.alloc ?_ ?_ _); rotate_left; (focus (first | exact Nat.le_refl _ | omega | (simp; done) | (simp; omega) | (simp at *; omega)))) | ((with_reducible refine Below.setCell ?_ ?_ _); rotate_left; (focus (first | exact Nat.le_refl _ | omega | (simp; done) | (simp; omega) | (simp at *; omega)))))) (hbw1.mono (by (focus (first | exact Nat.le_refl _ | omega | (simp; done) | (simp; omega) | (simp at *; omega)))))
            have kzw1 := kw1.size
            have lw1w0 : w.heap.size < w1.heap.size := by omega
            have lw1w1 : w.heap.size + 1 < w1.heap.size := by omega
            go_wp2
            refine bodyPost_ret (v := (fv 0 0)) (by simp [results, Try.results93, go_sem, *]) rfl ?_
            exact ⟨by rw [HF.out, HG.out], (by repeat (first | (with_reducible assumption) | (with_reducible exact Below.refl _ _) | (with_reducible refine Below.drew ?_) | (with_reducible refine below_drewN ?_ _) | ((with_reducible refine Below.alloc ?_ ?_ _); rotate_left; (focus (first | exact Nat.le_refl _ | omega | (simp; done) | (simp; omega) | (simp at *; omega)))) | ((with_reducible refine Below.setCell ?_ ?_ _); rotate_left; (focus (first | exact Nat.le_refl _ | omega | (simp; done) | (simp; omega) | (simp at *; omega))))))⟩
        · have HF := Lib.hid (gridF_4 (p := p) hL hR hC hN)
          have t3 : ((n : Int) != R * C) = true := by simp [hN, hC]
          have tC : 0 ≤ R * C ∧ R * C ≤ 10000 := by rw [hC]; omega
          clear hL hR hC hN
          go_enter Try.func93, Try.ntmps93
          go_wp2_with fail
          refine (validLevels_any _ _).mono ?_
          rintro e w' ⟨rfl, rfl⟩
          go_wp2_with fail
          go_quiet ((go_at_call 153; exact quiet_left (rows_any _ HL.out _)))
          go_wp2_with fail
          refine (pfault_any _ _ _).mono ?_
          rintro e w1 ⟨rfl, hbw1⟩
          obtain ⟨hcw1, hfw1⟩ := bcell hbw1
          have hzw1 := hbw1.size
          try simp at hzw1
          have kw1 : Below w.heap.size w w1 := Below.trans (by repeat (first | (with_reducible assumption) | (with_reducible exact Below.refl _ _) | (with_reducible refine Below.drew ?_) | (with_reducible refine below_drewN ?_ _) | ((with_reducible refine Below.alloc ?_ ?_ _); rotate_left; (focus (first | exact Nat.le_refl _ | omega | (simp; done) | (simp; omega) | (simp at *; omega)))) | ((with_reducible refine Below.setCell ?_ ?_ _); rotate_left; (focus (first | exact Nat.le_refl _ | omega | (simp; done) | (simp; omega) | (simp at *; omega)))))) (hbw1.mono (by (focus (first | exact Nat.le_refl _ | omega | (simp; done) | (simp; omega) | (simp at *; omega)))))
          have kzw1 := kw1.size
          go_wp2
          refine bodyPost_ret (v := (fv 9 (-4))) (by simp [results, Try.results93, go_sem, *]) rfl ?_
          exact ⟨by rw [HF.out], (by repeat (first | (with_reducible assumption) | (with_reducible exact Below.refl _ _) | (with_reducible refine Below.drew ?_) | (with_reducible refine below_drewN ?_ _) | ((with_reducible refine Below.alloc ?_ ?_ _); rotate_left; (focus (first | exact Nat.le_refl _ | omega | (simp; done) | (simp; omega) | (simp at *; omega)))) | ((with_reducible refine Below.setCell ?_ ?_ _); rotate_left; (focus (first | exact Nat.le_refl _ | omega | (simp; done) | (simp; omega) | (simp at *; omega))))))⟩
      · have HF := Lib.hid (gridF_3 (n := n) (p := p) hL hR hC)
        have t2 : (C != 58) = true := by simp [hC]
        clear hL hR hC
        go_enter Try.func93, Try.ntmps93
        go_wp2_with fail
        refine (validLevels_any _ _).mono ?_
        rintro e w' ⟨rfl, rfl⟩
        go_wp2_with fail
        go_quiet ((go_at_call 153; exact quiet_left (rows_any _ HL.out _)))
        go_wp2_with fail
        refine (pfault_any _ _ _).mono ?_
        rintro e w1 ⟨rfl, hbw1⟩
        obtain ⟨hcw1, hfw1⟩ := bcell hbw1
        have hzw1 := hbw1.size
        try simp at hzw1
        have kw1 : Below w.heap.size w w1 := Below.trans (by repeat (first | (with_reducible assumption) | (with_reducible exact Below.refl _ _) | (with_reducible refine Below.drew ?_) | (with_reducible refine below_drewN ?_ _) | ((with_reducible refine Below.alloc ?_ ?_ _); rotate_left; (focus (first | exact Nat.le_refl _ | omega | (simp; done) | (simp; omega) | (simp at *; omega)))) | ((with_reducible refine Below.setCell ?_ ?_ _); rotate_left; (focus (first | exact Nat.le_refl _ | omega | (simp; done) | (simp; omega) | (simp at *; omega)))))) (hbw1.mono (by (focus (first | exact Nat.le_refl _ | omega | (simp; done) | (simp; omega) | (simp at *; omega)))))
        have kzw1 := kw1.size
        go_wp2
        refine bodyPost_ret (v := (fv 6 (-3))) (by simp [results, Try.results93, go_sem, *]) rfl ?_
        exact ⟨by rw [HF.out], (by repeat (first | (with_reducible assumption) | (with_reducible exact Below.refl _ _) | (with_reducible refine Below.drew ?_) | (with_reducible refine below_drewN ?_ _) | ((with_reducible refine Below.alloc ?_ ?_ _); rotate_left; (focus (first | exact Nat.le_refl _ | omega | (simp; done) | (simp; omega) | (simp at *; omega)))) | ((with_reducible refine Below.setCell ?_ ?_ _); rotate_left; (focus (first | exact Nat.le_refl _ | omega | (simp; done) | (simp; omega) | (simp at *; omega))))))⟩
    · have HF := Lib.hid (gridF_2 (C := C) (n := n) (p := p) hL hR)
      have t1 : (R != rowsOf L) = true := by simp [hR]
      clear hL hR
      go_enter Try.func93, Try.ntmps93
      go_wp2_with fail
      refine (validLevels_any _ _).mono ?_
      rintro e w' ⟨rfl, rfl⟩
      go_wp2_with fail
      go_quiet ((go_at_call 153; exact quiet_left (rows_any _ HL.out _)))
      go_wp2_with fail
      refine (pfault_any _ _ _).mono ?_
      rintro e w1 ⟨rfl, hbw1⟩
      obtain ⟨hcw1, hfw1⟩ := bcell hbw1
      have hzw1 := hbw1.size
      try simp at hzw1
      have kw1 : Below w.heap.size w w1 := Below.trans (by repeat (first | (with_reducible assumption) | (with_reducible exact Below.refl _ _) | (with_reducible refine Below.drew ?_) | (with_reducible refine below_drewN ?_ _) | ((with_reducible refine Below.alloc ?_ ?_ _); rotate_left; (focus (first | exact Nat.le_refl _ | omega | (simp; done) | (simp; omega) | (simp at *; omega)))) | ((with_reducible refine Below.setCell ?_ ?_ _); rotate_left; (focus (first | exact Nat.le_refl _ | omega | (simp; done) | (simp; omega) | (simp at *; omega)))))) (hbw1.mono (by (focus (first | exact Nat.le_refl _ | omega | (simp; done) | (simp; omega) | (simp at *; omega)))))
      have kzw1 := kw1.size
      go_wp2
      refine bodyPost_ret (v := (fv 6 (-2))) (by simp [results, Try.results93, go_sem, *]) rfl ?_
      exact ⟨by rw [HF.out], (by repeat (first | (with_reducible assumption) | (with_reducible exact Below.refl _ _) | (with_reducible refine Below.drew ?_) | (with_reducible refine below_drewN ?_ _) | ((with_reducible refine Below.alloc ?_ ?_ _); rotate_left; (focus (first | exact Nat.le_refl _ | omega | (simp; done) | (simp; omega) | (simp at *; omega)))) | ((with_reducible refine Below.setCell ?_ ?_ _); rotate_left; (focus (first | exact Nat.le_refl _ | omega | (simp; done) | (simp; omega) | (simp at *; omega))))))⟩
  · have HF := Lib.hid (gridF_1 (R := R) (C := C) (n := n) (p := p) (by omega : L ≠ 2 ∧ L ≠ 4))
    have tL := lvB_no hL
    clear hL
    go_enter Try.func93, Try.ntmps93
    go_wp2_with fail
    refine (validLevels_any _ _).mono ?_
    rintro e w' ⟨rfl, rfl⟩
    go_wp2_with fail
    refine (pfault_any _ _ _).mono ?_
    rintro e w1 ⟨rfl, hbw1⟩
    obtain ⟨hcw1, hfw1⟩ := bcell hbw1
    have hzw1 := hbw1.size
    try simp at hzw1
    have kw1 : Below w.heap.size w w1 := Below.trans (by repeat (first | (with_reducible assumption) | (with_reducible exact Below.refl _ _) | (with_reducible refine Below.drew ?_) | (with_reducible refine below_drewN ?_ _) | ((with_reducible refine Below.alloc ?_ ?_ _); rotate_left; (focus (first | exact Nat.le_refl _ | omega | (simp; done) | (simp; omega) | (simp at *; omega)))) | ((with_reducible refine Below.setCell ?_ ?_ _); rotate_left; (focus (first | exact Nat.le_refl _ | omega | (simp; done) | (simp; omega) | (simp at *; omega)))))) (hbw1.mono (by (focus (first | exact Nat.le_refl _ | omega | (simp; done) | (simp; omega) | (simp at *; omega)))))
    have kzw1 := kw1.size
    go_wp2
    refine bodyPost_ret (v := (fv 4 (-1))) (by simp [results, Try.results93, go_sem, *]) rfl ?_
    exact ⟨by rw [HF.out], (by repeat (first | (with_reducible assumption) | (with_reducible exact Below.refl _ _) | (with_reducible refine Below.drew ?_) | (with_reducible refine below_drewN ?_ _) | ((with_reducible refine Below.alloc ?_ ?_ _); rotate_left; (focus (first | exact Nat.le_refl _ | omega | (simp; done) | (simp; omega) | (simp at *; omega)))) | ((with_reducible refine Below.setCell ?_ ?_ _); rotate_left; (focus (first | exact Nat.le_refl _ | omega | (simp; done) | (simp; omega) | (simp at *; omega))))))⟩

end Go.Proofs.Ytpdjiokmafoppaa
