/- render.Draw where it refuses, and ref6.DrawFault: the one fault drawF. Conditions: the cells read as bytes. -/
import Derived.Test.YtpdjiokmafoppaaDraw
namespace Go.Proofs.Ytpdjiokmafoppaa
open Go.RowKit

theorem drawF_g {gf : Int × Int} {s l t : Int} (h : gf.1 ≠ 0) : drawF gf s l t = gf := by unfold drawF; rw [if_pos h]
theorem drawF_s {gf : Int × Int} {s l t : Int} (h : gf.1 = 0) (hs : s < 3 ∨ 6 < s) : drawF gf s l t = (4, -2) := by unfold drawF; rw [if_neg (by simpa using h), if_pos hs]
theorem drawF_l {gf : Int × Int} {s l t : Int} (h : gf.1 = 0) (hs : 3 ≤ s ∧ s ≤ 6) (hl : l < 2 ∨ 40 < l) : drawF gf s l t = (4, -3) := by unfold drawF; rw [if_neg (by simpa using h), if_neg (by omega), if_pos hl]
theorem drawF_t {gf : Int × Int} {s l t : Int} (h : gf.1 = 0) (hs : 3 ≤ s ∧ s ≤ 6) (hl : 2 ≤ l ∧ l ≤ 40) (ht : t < 2 ∨ 40 < t) : drawF gf s l t = (4, -4) := by
  unfold drawF; rw [if_neg (by simpa using h), if_neg (by omega), if_neg (by omega), if_pos ht]
theorem drawF_0 {gf : Int × Int} {s l t : Int} (h : gf.1 = 0) (hs : 3 ≤ s ∧ s ≤ 6) (hl : 2 ≤ l ∧ l ≤ 40) (ht : 2 ≤ t ∧ t ≤ 40) : drawF gf s l t = (0, 0) := by
  unfold drawF; rw [if_neg (by simpa using h), if_neg (by omega), if_neg (by omega), if_neg (by omega)]
/-- A drawing is refused, or all is in range. -/
theorem drawF_cases (gf : Int × Int) (s l t : Int) : (drawF gf s l t).1 ≠ 0 ∨ (gf.1 = 0 ∧ (3 ≤ s ∧ s ≤ 6) ∧ (2 ≤ l ∧ l ≤ 40) ∧ (2 ≤ t ∧ t ≤ 40)) := by
  by_cases h : gf.1 = 0
  · by_cases hs : 3 ≤ s ∧ s ≤ 6
    · by_cases hl : 2 ≤ l ∧ l ≤ 40
      · by_cases ht : 2 ≤ t ∧ t ≤ 40
        · exact .inr ⟨h, hs, hl, ht⟩
        · left; rw [drawF_t h hs hl (by omega)]; decide
      · left; rw [drawF_l h hs (by omega)]; decide
    · left; rw [drawF_s h (by omega)]; decide
  · left; rw [drawF_g h]; exact h

set_option maxHeartbeats 2000000 in
theorem DrawFault_any (A : Option Addr) (n c : Nat) (L R C s l t : Int) (p : Nat → Int) (w : World) (hn : n ≤ maxLen) (hp : Byt p) (hr : RdB w A n p) :
    Calls Try.prog 28 #[gv L R C A n c, .int .i64 s, .int .i64 l, .int .i64 t] w fun e w' => e = .returned (fv (drawF (gridF L R C n p) s l t).1 (drawF (gridF L R C n p) s l t).2) ∧ Below w.heap.size w w' := by
  have H2 := rd_later hr
  clear hr
  obtain ⟨gf, hgf⟩ : ∃ gf, gf = gridF L R C n p := ⟨_, rfl⟩
  have HG := Lib.hid hgf
  rw [← hgf]
  clear hgf
  by_cases hg : gf.1 = 0
  · have t0 : (gf.1 != 0) = false := by simp [hg]
    by_cases hs : 3 ≤ s ∧ s ≤ 6
    · have t1 := inB_yes hs.1 hs.2
      by_cases hl : 2 ≤ l ∧ l ≤ 40
      · have t2 := inB_yes hl.1 hl.2
        by_cases ht : 2 ≤ t ∧ t ≤ 40
        · have t3 := inB_yes ht.1 ht.2
          have HF := Lib.hid (drawF_0 hg hs hl ht)
          clear hg
          go_enter Try.func28, Try.ntmps28
          go_wp2_with fail
          refine (GridFault_any A n c p L R C _ hn hp (H2.out _ (by repeat (first | (with_reducible assumption) | (with_reducible exact Below.refl _ _) | (with_reducible refine Below.drew ?_) | (with_reducible refine below_drewN ?_ _) | ((with_reducible refine Below.alloc ?_ ?_ _); rotate_left; (focus (first | exact Nat.le_refl _ | omega | (simp; done) | (simp; omega) | (simp at *; omega)))) | ((with_reducible refine Below.setCell ?_ ?_ _); rotate_left; (focus (first | exact Nat.le_refl _ | omega | (simp; done) | (simp; omega) | (simp at *; omega)))))))).mono ?_
          rw [← HG.out]
          rintro e w1 ⟨rfl, hbw1⟩
          obtain ⟨hcw1, hfw1⟩ := bcell hbw1
          have hzw1 := hbw1.size
          try simp at hzw1
          have kw1 : Below w.heap.size w w1 := Below.trans (by repeat (first | (with_reducible assumption) | (with_reducible exact Below.refl _ _) | (with_reducible refine Below.drew ?_) | (with_reducible refine below_drewN ?_ _) | ((with_reducible refine Below.alloc ?_ ?_ _); rotate_left; (focus (first | exact Nat.le_refl _ | omega | (simp; done) | (simp; omega) | (simp at *; omega)))) | ((with_reducible refine Below.setCell ?_ ?_ _); rotate_left; (focus (first | exact Nat.le_refl _ | omega | (simp; done) | (simp; omega) | (simp at *; omega)))))) (hbw1.mono (by (focus (first | exact Nat.le_refl _ | omega | (simp; done) | (simp; omega) | (simp at *; omega)))))
          have kzw1 := kw1.size
          have lw1w0 : w.heap.size < w1.heap.size := by omega
          have lw1w1 : w.heap.size + 1 < w1.heap.size := by omega
          go_wp2_with fail
          refine (In_any _ _ _ _).mono ?_
          rintro e w' ⟨rfl, rfl⟩
          go_wp2_with fail
          refine (In_any _ _ _ _).mono ?_
          rintro e w' ⟨rfl, rfl⟩
          go_wp2_with fail
          refine (In_any _ _ _ _).mono ?_
          rintro e w' ⟨rfl, rfl⟩
          go_wp2_with fail
          refine (At_any _ _ _).mono ?_
          rintro e w2 ⟨rfl, hbw2⟩
          obtain ⟨hcw2, hfw2⟩ := bcell hbw2
          have hzw2 := hbw2.size
          try simp at hzw2
          have kw2 : Below w.heap.size w w2 := Below.trans (by repeat (first | (with_reducible assumption) | (with_reducible exact Below.refl _ _) | (with_reducible refine Below.drew ?_) | (with_reducible refine below_drewN ?_ _) | ((with_reducible refine Below.alloc ?_ ?_ _); rotate_left; (focus (first | exact Nat.le_refl _ | omega | (simp; done) | (simp; omega) | (simp at *; omega)))) | ((with_reducible refine Below.setCell ?_ ?_ _); rotate_left; (focus (first | exact Nat.le_refl _ | omega | (simp; done) | (simp; omega) | (simp at *; omega)))))) (hbw2.mono (by (focus (first | exact Nat.le_refl _ | omega | (simp; done) | (simp; omega) | (simp at *; omega)))))
          have kzw2 := kw2.size
          have lw2w10 : w1.heap.size < w2.heap.size := by omega
          have lw2w0 : w.heap.size < w2.heap.size := by omega
          have lw2w1 : w.heap.size + 1 < w2.heap.size := by omega
          go_wp2
          refine bodyPost_ret (v := (fv 0 0)) (by simp [results, Try.results28, go_sem, *]) rfl ?_
          exact ⟨by rw [HF.out], (by repeat (first | (with_reducible assumption) | (with_reducible exact Below.refl _ _) | (with_reducible refine Below.drew ?_) | (with_reducible refine below_drewN ?_ _) | ((with_reducible refine Below.alloc ?_ ?_ _); rotate_left; (focus (first | exact Nat.le_refl _ | omega | (simp; done) | (simp; omega) | (simp at *; omega)))) | ((with_reducible refine Below.setCell ?_ ?_ _); rotate_left; (focus (first | exact Nat.le_refl _ | omega | (simp; done) | (simp; omega) | (simp at *; omega))))))⟩
        · have t3 := inB_no (by omega : t < 2 ∨ 40 < t)
          have HF := Lib.hid (drawF_t hg hs hl (by omega : t < 2 ∨ 40 < t))
          clear hg
          go_enter Try.func28, Try.ntmps28
          go_wp2_with fail
          refine (GridFault_any A n c p L R C _ hn hp (H2.out _ (by repeat (first | (with_reducible assumption) | (with_reducible exact Below.refl _ _) | (with_reducible refine Below.drew ?_) | (with_reducible refine below_drewN ?_ _) | ((with_reducible refine Below.alloc ?_ ?_ _); rotate_left; (focus (first | exact Nat.le_refl _ | omega | (simp; done) | (simp; omega) | (simp at *; omega)))) | ((with_reducible refine Below.setCell ?_ ?_ _); rotate_left; (focus (first | exact Nat.le_refl _ | omega | (simp; done) | (simp; omega) | (simp at *; omega)))))))).mono ?_
          rw [← HG.out]
          rintro e w1 ⟨rfl, hbw1⟩
          obtain ⟨hcw1, hfw1⟩ := bcell hbw1
          have hzw1 := hbw1.size
          try simp at hzw1
          have kw1 : Below w.heap.size w w1 := Below.trans (by repeat (first | (with_reducible assumption) | (with_reducible exact Below.refl _ _) | (with_reducible refine Below.drew ?_) | (with_reducible refine below_drewN ?_ _) | ((with_reducible refine Below.alloc ?_ ?_ _); rotate_left; (focus (first | exact Nat.le_refl _ | omega | (simp; done) | (simp; omega) | (simp at *; omega)))) | ((with_reducible refine Below.setCell ?_ ?_ _); rotate_left; (focus (first | exact Nat.le_refl _ | omega | (simp; done) | (simp; omega) | (simp at *; omega)))))) (hbw1.mono (by (focus (first | exact Nat.le_refl _ | omega | (simp; done) | (simp; omega) | (simp at *; omega)))))
          have kzw1 := kw1.size
          have lw1w0 : w.heap.size < w1.heap.size := by omega
          have lw1w1 : w.heap.size + 1 < w1.heap.size := by omega
          go_wp2_with fail
          refine (In_any _ _ _ _).mono ?_
          rintro e w' ⟨rfl, rfl⟩
          go_wp2_with fail
          refine (In_any _ _ _ _).mono ?_
          rintro e w' ⟨rfl, rfl⟩
          go_wp2_with fail
          refine (In_any _ _ _ _).mono ?_
          rintro e w' ⟨rfl, rfl⟩
          go_wp2_with fail
          refine (At_any _ _ _).mono ?_
          rintro e w2 ⟨rfl, hbw2⟩
          obtain ⟨hcw2, hfw2⟩ := bcell hbw2
          have hzw2 := hbw2.size
          try simp at hzw2
          have kw2 : Below w.heap.size w w2 := Below.trans (by repeat (first | (with_reducible assumption) | (with_reducible exact Below.refl _ _) | (with_reducible refine Below.drew ?_) | (with_reducible refine below_drewN ?_ _) | ((with_reducible refine Below.alloc ?_ ?_ _); rotate_left; (focus (first | exact Nat.le_refl _ | omega | (simp; done) | (simp; omega) | (simp at *; omega)))) | ((with_reducible refine Below.setCell ?_ ?_ _); rotate_left; (focus (first | exact Nat.le_refl _ | omega | (simp; done) | (simp; omega) | (simp at *; omega)))))) (hbw2.mono (by (focus (first | exact Nat.le_refl _ | omega | (simp; done) | (simp; omega) | (simp at *; omega)))))
          have kzw2 := kw2.size
          have lw2w10 : w1.heap.size < w2.heap.size := by omega
          have lw2w0 : w.heap.size < w2.heap.size := by omega
          have lw2w1 : w.heap.size + 1 < w2.heap.size := by omega
          go_wp2
          refine bodyPost_ret (v := (fv 4 (-4))) (by simp [results, Try.results28, go_sem, *]) rfl ?_
          exact ⟨by rw [HF.out], (by repeat (first | (with_reducible assumption) | (with_reducible exact Below.refl _ _) | (with_reducible refine Below.drew ?_) | (with_reducible refine below_drewN ?_ _) | ((with_reducible refine Below.alloc ?_ ?_ _); rotate_left; (focus (first | exact Nat.le_refl _ | omega | (simp; done) | (simp; omega) | (simp at *; omega)))) | ((with_reducible refine Below.setCell ?_ ?_ _); rotate_left; (focus (first | exact Nat.le_refl _ | omega | (simp; done) | (simp; omega) | (simp at *; omega))))))⟩
      · have t2 := inB_no (by omega : l < 2 ∨ 40 < l)
        have HF := Lib.hid (drawF_l (t := t) hg hs (by omega : l < 2 ∨ 40 < l))
        clear hg
        go_enter Try.func28, Try.ntmps28
        go_wp2_with fail
        refine (GridFault_any A n c p L R C _ hn hp (H2.out _ (by repeat (first | (with_reducible assumption) | (with_reducible exact Below.refl _ _) | (with_reducible refine Below.drew ?_) | (with_reducible refine below_drewN ?_ _) | ((with_reducible refine Below.alloc ?_ ?_ _); rotate_left; (focus (first | exact Nat.le_refl _ | omega | (simp; done) | (simp; omega) | (simp at *; omega)))) | ((with_reducible refine Below.setCell ?_ ?_ _); rotate_left; (focus (first | exact Nat.le_refl _ | omega | (simp; done) | (simp; omega) | (simp at *; omega)))))))).mono ?_
        rw [← HG.out]
        rintro e w1 ⟨rfl, hbw1⟩
        obtain ⟨hcw1, hfw1⟩ := bcell hbw1
        have hzw1 := hbw1.size
        try simp at hzw1
        have kw1 : Below w.heap.size w w1 := Below.trans (by repeat (first | (with_reducible assumption) | (with_reducible exact Below.refl _ _) | (with_reducible refine Below.drew ?_) | (with_reducible refine below_drewN ?_ _) | ((with_reducible refine Below.alloc ?_ ?_ _); rotate_left; (focus (first | exact Nat.le_refl _ | omega | (simp; done) | (simp; omega) | (simp at *; omega)))) | ((with_reducible refine Below.setCell ?_ ?_ _); rotate_left; (focus (first | exact Nat.le_refl _ | omega | (simp; done) | (simp; omega) | (simp at *; omega)))))) (hbw1.mono (by (focus (first | exact Nat.le_refl _ | omega | (simp; done) | (simp; omega) | (simp at *; omega)))))
        have kzw1 := kw1.size
        have lw1w0 : w.heap.size < w1.heap.size := by omega
        have lw1w1 : w.heap.size + 1 < w1.heap.size := by omega
        go_wp2_with fail
        refine (In_any _ _ _ _).mono ?_
        rintro e w' ⟨rfl, rfl⟩
        go_wp2_with fail
        refine (In_any _ _ _ _).mono ?_
        rintro e w' ⟨rfl, rfl⟩
        go_wp2_with fail
        refine (At_any _ _ _).mono ?_
        rintro e w2 ⟨rfl, hbw2⟩
        obtain ⟨hcw2, hfw2⟩ := bcell hbw2
        have hzw2 := hbw2.size
        try simp at hzw2
        have kw2 : Below w.heap.size w w2 := Below.trans (by repeat (first | (with_reducible assumption) | (with_reducible exact Below.refl _ _) | (with_reducible refine Below.drew ?_) | (with_reducible refine below_drewN ?_ _) | ((with_reducible refine Below.alloc ?_ ?_ _); rotate_left; (focus (first | exact Nat.le_refl _ | omega | (simp; done) | (simp; omega) | (simp at *; omega)))) | ((with_reducible refine Below.setCell ?_ ?_ _); rotate_left; (focus (first | exact Nat.le_refl _ | omega | (simp; done) | (simp; omega) | (simp at *; omega)))))) (hbw2.mono (by (focus (first | exact Nat.le_refl _ | omega | (simp; done) | (simp; omega) | (simp at *; omega)))))
        have kzw2 := kw2.size
        have lw2w10 : w1.heap.size < w2.heap.size := by omega
        have lw2w0 : w.heap.size < w2.heap.size := by omega
        have lw2w1 : w.heap.size + 1 < w2.heap.size := by omega
        go_wp2
        refine bodyPost_ret (v := (fv 4 (-3))) (by simp [results, Try.results28, go_sem, *]) rfl ?_
        exact ⟨by rw [HF.out], (by repeat (first | (with_reducible assumption) | (with_reducible exact Below.refl _ _) | (with_reducible refine Below.drew ?_) | (with_reducible refine below_drewN ?_ _) | ((with_reducible refine Below.alloc ?_ ?_ _); rotate_left; (focus (first | exact Nat.le_refl _ | omega | (simp; done) | (simp; omega) | (simp at *; omega)))) | ((with_reducible refine Below.setCell ?_ ?_ _); rotate_left; (focus (first | exact Nat.le_refl _ | omega | (simp; done) | (simp; omega) | (simp at *; omega))))))⟩
    · have t1 := inB_no (by omega : s < 3 ∨ 6 < s)
      have HF := Lib.hid (drawF_s (l := l) (t := t) hg (by omega : s < 3 ∨ 6 < s))
      clear hg
      go_enter Try.func28, Try.ntmps28
      go_wp2_with fail
      refine (GridFault_any A n c p L R C _ hn hp (H2.out _ (by repeat (first | (with_reducible assumption) | (with_reducible exact Below.refl _ _) | (with_reducible refine Below.drew ?_) | (with_reducible refine below_drewN ?_ _) | ((with_reducible refine Below.alloc ?_ ?_ _); rotate_left; (focus (first | exact Nat.le_refl _ | omega | (simp; done) | (simp; omega) | (simp at *; omega)))) | ((with_reducible refine Below.setCell ?_ ?_ _); rotate_left; (focus (first | exact Nat.le_refl _ | omega | (simp; done) | (simp; omega) | (simp at *; omega)))))))).mono ?_
      rw [← HG.out]
      rintro e w1 ⟨rfl, hbw1⟩
      obtain ⟨hcw1, hfw1⟩ := bcell hbw1
      have hzw1 := hbw1.size
      try simp at hzw1
      have kw1 : Below w.heap.size w w1 := Below.trans (by repeat (first | (with_reducible assumption) | (with_reducible exact Below.refl _ _) | (with_reducible refine Below.drew ?_) | (with_reducible refine below_drewN ?_ _) | ((with_reducible refine Below.alloc ?_ ?_ _); rotate_left; (focus (first | exact Nat.le_refl _ | omega | (simp; done) | (simp; omega) | (simp at *; omega)))) | ((with_reducible refine Below.setCell ?_ ?_ _); rotate_left; (focus (first | exact Nat.le_refl _ | omega | (simp; done) | (simp; omega) | (simp at *; omega)))))) (hbw1.mono (by (focus (first | exact Nat.le_refl _ | omega | (simp; done) | (simp; omega) | (simp at *; omega)))))
      have kzw1 := kw1.size
      have lw1w0 : w.heap.size < w1.heap.size := by omega
      have lw1w1 : w.heap.size + 1 < w1.heap.size := by omega
      go_wp2_with fail
      refine (In_any _ _ _ _).mono ?_
      rintro e w' ⟨rfl, rfl⟩
      go_wp2_with fail
      refine (At_any _ _ _).mono ?_
      rintro e w2 ⟨rfl, hbw2⟩
      obtain ⟨hcw2, hfw2⟩ := bcell hbw2
      have hzw2 := hbw2.size
      try simp at hzw2
      have kw2 : Below w.heap.size w w2 := Below.trans (by repeat (first | (with_reducible assumption) | (with_reducible exact Below.refl _ _) | (with_reducible refine Below.drew ?_) | (with_reducible refine below_drewN ?_ _) | ((with_reducible refine Below.alloc ?_ ?_ _); rotate_left; (focus (first | exact Nat.le_refl _ | omega | (simp; done) | (simp; omega) | (simp at *; omega)))) | ((with_reducible refine Below.setCell ?_ ?_ _); rotate_left; (focus (first | exact Nat.le_refl _ | omega | (simp; done) | (simp; omega) | (simp at *; omega)))))) (hbw2.mono (by (focus (first | exact Nat.le_refl _ | omega | (simp; done) | (simp; omega) | (simp at *; omega)))))
      have kzw2 := kw2.size
      have lw2w10 : w1.heap.size < w2.heap.size := by omega
      have lw2w0 : w.heap.size < w2.heap.size := by omega
      have lw2w1 : w.heap.size + 1 < w2.heap.size := by omega
      go_wp2
      refine bodyPost_ret (v := (fv 4 (-2))) (by simp [results, Try.results28, go_sem, *]) rfl ?_
      exact ⟨by rw [HF.out], (by repeat (first | (with_reducible assumption) | (with_reducible exact Below.refl _ _) | (with_reducible refine Below.drew ?_) | (with_reducible refine below_drewN ?_ _) | ((with_reducible refine Below.alloc ?_ ?_ _); rotate_left; (focus (first | exact Nat.le_refl _ | omega | (simp; done) | (simp; omega) | (simp at *; omega)))) | ((with_reducible refine Below.setCell ?_ ?_ _); rotate_left; (focus (first | exact Nat.le_refl _ | omega | (simp; done) | (simp; omega) | (simp at *; omega))))))⟩
  · have HF := Lib.hid (drawF_g (s := s) (l := l) (t := t) hg)
    have t0 : (gf.1 != 0) = true := by simp [hg]
    clear hg
    go_enter Try.func28, Try.ntmps28
    go_wp2_with fail
    refine (GridFault_any A n c p L R C _ hn hp (H2.out _ (by repeat (first | (with_reducible assumption) | (with_reducible exact Below.refl _ _) | (with_reducible refine Below.drew ?_) | (with_reducible refine below_drewN ?_ _) | ((with_reducible refine Below.alloc ?_ ?_ _); rotate_left; (focus (first | exact Nat.le_refl _ | omega | (simp; done) | (simp; omega) | (simp at *; omega)))) | ((with_reducible refine Below.setCell ?_ ?_ _); rotate_left; (focus (first | exact Nat.le_refl _ | omega | (simp; done) | (simp; omega) | (simp at *; omega)))))))).mono ?_
    rw [← HG.out]
    rintro e w1 ⟨rfl, hbw1⟩
    obtain ⟨hcw1, hfw1⟩ := bcell hbw1
    have hzw1 := hbw1.size
    try simp at hzw1
    have kw1 : Below w.heap.size w w1 := Below.trans (by repeat (first | (with_reducible assumption) | (with_reducible exact Below.refl _ _) | (with_reducible refine Below.drew ?_) | (with_reducible refine below_drewN ?_ _) | ((with_reducible refine Below.alloc ?_ ?_ _); rotate_left; (focus (first | exact Nat.le_refl _ | omega | (simp; done) | (simp; omega) | (simp at *; omega)))) | ((with_reducible refine Below.setCell ?_ ?_ _); rotate_left; (focus (first | exact Nat.le_refl _ | omega | (simp; done) | (simp; omega) | (simp at *; omega)))))) (hbw1.mono (by (focus (first | exact Nat.le_refl _ | omega | (simp; done) | (simp; omega) | (simp at *; omega)))))
    have kzw1 := kw1.size
    have lw1w0 : w.heap.size < w1.heap.size := by omega
    have lw1w1 : w.heap.size + 1 < w1.heap.size := by omega
    go_wp2
    refine bodyPost_ret (v := (fv gf.1 gf.2)) (by simp [results, Try.results28, go_sem, *]) rfl ?_
    exact ⟨by rw [HF.out], (by repeat (first | (with_reducible assumption) | (with_reducible exact Below.refl _ _) | (with_reducible refine Below.drew ?_) | (with_reducible refine below_drewN ?_ _) | ((with_reducible refine Below.alloc ?_ ?_ _); rotate_left; (focus (first | exact Nat.le_refl _ | omega | (simp; done) | (simp; omega) | (simp at *; omega)))) | ((with_reducible refine Below.setCell ?_ ?_ _); rotate_left; (focus (first | exact Nat.le_refl _ | omega | (simp; done) | (simp; omega) | (simp at *; omega))))))⟩

end Go.Proofs.Ytpdjiokmafoppaa
