/- render.Draw where it refuses: the zero image and the fault drawF. Conditions: the cells read as bytes. -/
import Derived.Test.YtpdjiokmafoppaaDrawB
namespace Go.Proofs.Ytpdjiokmafoppaa
open Go.RowKit

set_option maxHeartbeats 2000000 in
theorem Draw_bad (A : Option Addr) (n c : Nat) (L R C s l t : Int) (p : Nat → Int) (w : World) (hn : n ≤ maxLen) (hp : Byt p) (hr : RdB w A n p) (hb : (drawF (gridF L R C n p) s l t).1 ≠ 0) :
    Calls Try.prog 25 #[gv L R C A n c, .int .i64 s, .int .i64 l, .int .i64 t] w fun e w' =>
      e = .returned (.tuple #[iv 0 0 none 0 0, fv (drawF (gridF L R C n p) s l t).1 (drawF (gridF L R C n p) s l t).2]) ∧ Below w.heap.size w w' := by
  have H2 := rd_later hr
  clear hr
  have h00 : (gridF L R C n p).1 = 0 → gridF L R C n p = (0, 0) := by
    intro h
    rcases gridF_cases L R C n p with h1 | h1
    · exact gridF_ok h1
    · exact absurd h h1
  obtain ⟨gf, hgf⟩ : ∃ gf, gf = gridF L R C n p := ⟨_, rfl⟩
  rw [← hgf] at h00 hb
  have HG := Lib.hid hgf
  rw [← hgf]
  clear hgf
  by_cases hg : gf.1 = 0
  · obtain rfl := h00 hg
    by_cases hs : 3 ≤ s ∧ s ≤ 6
    · by_cases hl : 2 ≤ l ∧ l ≤ 40
      · have t2 := inB_yes hl.1 hl.2
        by_cases ht : 2 ≤ t ∧ t ≤ 40
        · exact absurd (by rw [drawF_0 hg hs hl ht]) hb
        · have t3 := inB_no (by omega : t < 2 ∨ 40 < t)
          have HF := Lib.hid (drawF_t hg hs hl (by omega : t < 2 ∨ 40 < t))
          clear hg h00 hb
          go_enter Try.func25, Try.ntmps25
          go_wp2_with fail
          refine (pValidate_any A n c p L R C _ hn hp (H2.out _ (by repeat (first | (with_reducible assumption) | (with_reducible exact Below.refl _ _) | (with_reducible refine Below.drew ?_) | (with_reducible refine below_drewN ?_ _) | ((with_reducible refine Below.alloc ?_ ?_ _); rotate_left; (focus (first | exact Nat.le_refl _ | omega | (simp; done) | (simp; omega) | (simp at *; omega)))) | ((with_reducible refine Below.setCell ?_ ?_ _); rotate_left; (focus (first | exact Nat.le_refl _ | omega | (simp; done) | (simp; omega) | (simp at *; omega)))))))).mono ?_
          rw [← HG.out]
          rintro e w1 ⟨rfl, hbw1⟩
          obtain ⟨hcw1, hfw1⟩ := bcell hbw1
          have hzw1 := hbw1.size
          try simp at hzw1
          have kw1 : Below w.heap.size w w1 := Below.trans (by repeat (first | (with_reducible assumption) | (with_reducible exact Below.refl _ _) | (with_reducible refine Below.drew ?_) | (with_reducible refine below_drewN ?_ _) | ((with_reducible refine Below.alloc ?_ ?_ _); rotate_left; (focus (first | exact Nat.le_refl _ | omega | (simp; done) | (simp; omega) | (simp at *; omega)))) | ((with_reducible refine Below.setCell ?_ ?_ _); rotate_left; (focus (first | exact Nat.le_refl _ | omega | (simp; done) | (simp; omega) | (simp at *; omega)))))) (hbw1.mono (by (focus (first | exact Nat.le_refl _ | omega | (simp; done) | (simp; omega) | (simp at *; omega)))))
          have kzw1 := kw1.size
          have lw1w0 : w.heap.size < w1.heap.size := by omega
          have lw1w1 : w.heap.size + 1 < w1.heap.size := by omega
          have lw1w2 : w.heap.size + 2 < w1.heap.size := by omega
          go_wp2_with fail
          refine (margin_any _ _).mono ?_
          rintro e w' ⟨rfl, rfl⟩
          go_wp2_with fail
          refine (margin_any _ _).mono ?_
          rintro e w' ⟨rfl, rfl⟩
          go_wp2_with fail
          refine (rfault_any _ _ _).mono ?_
          rintro e w2 ⟨rfl, hbw2⟩
          obtain ⟨hcw2, hfw2⟩ := bcell hbw2
          have hzw2 := hbw2.size
          try simp at hzw2
          have kw2 : Below w.heap.size w w2 := Below.trans (by repeat (first | (with_reducible assumption) | (with_reducible exact Below.refl _ _) | (with_reducible refine Below.drew ?_) | (with_reducible refine below_drewN ?_ _) | ((with_reducible refine Below.alloc ?_ ?_ _); rotate_left; (focus (first | exact Nat.le_refl _ | omega | (simp; done) | (simp; omega) | (simp at *; omega)))) | ((with_reducible refine Below.setCell ?_ ?_ _); rotate_left; (focus (first | exact Nat.le_refl _ | omega | (simp; done) | (simp; omega) | (simp at *; omega)))))) (hbw2.mono (by (focus (first | exact Nat.le_refl _ | omega | (simp; done) | (simp; omega) | (simp at *; omega)))))
          have kzw2 := kw2.size
          have lw2w10 : w1.heap.size < w2.heap.size := by omega
          have lw2w0 : w.heap.size < w2.heap.size := by omega
          have lw2w1 : w.heap.size + 1 < w2.heap.size := by omega
          have lw2w2 : w.heap.size + 2 < w2.heap.size := by omega
          go_wp2
          refine bodyPost_ret (v := (.tuple #[iv 0 0 none 0 0, fv 4 (-4)])) (by simp [results, Try.results25, go_sem, *]) rfl ?_
          exact ⟨by rw [HF.out], (by repeat (first | (with_reducible assumption) | (with_reducible exact Below.refl _ _) | (with_reducible refine Below.drew ?_) | (with_reducible refine below_drewN ?_ _) | ((with_reducible refine Below.alloc ?_ ?_ _); rotate_left; (focus (first | exact Nat.le_refl _ | omega | (simp; done) | (simp; omega) | (simp at *; omega)))) | ((with_reducible refine Below.setCell ?_ ?_ _); rotate_left; (focus (first | exact Nat.le_refl _ | omega | (simp; done) | (simp; omega) | (simp at *; omega))))))⟩
      · have t2 := inB_no (by omega : l < 2 ∨ 40 < l)
        have HF := Lib.hid (drawF_l (t := t) hg hs (by omega : l < 2 ∨ 40 < l))
        clear hg h00 hb
        go_enter Try.func25, Try.ntmps25
        go_wp2_with fail
        refine (pValidate_any A n c p L R C _ hn hp (H2.out _ (by repeat (first | (with_reducible assumption) | (with_reducible exact Below.refl _ _) | (with_reducible refine Below.drew ?_) | (with_reducible refine below_drewN ?_ _) | ((with_reducible refine Below.alloc ?_ ?_ _); rotate_left; (focus (first | exact Nat.le_refl _ | omega | (simp; done) | (simp; omega) | (simp at *; omega)))) | ((with_reducible refine Below.setCell ?_ ?_ _); rotate_left; (focus (first | exact Nat.le_refl _ | omega | (simp; done) | (simp; omega) | (simp at *; omega)))))))).mono ?_
        rw [← HG.out]
        rintro e w1 ⟨rfl, hbw1⟩
        obtain ⟨hcw1, hfw1⟩ := bcell hbw1
        have hzw1 := hbw1.size
        try simp at hzw1
        have kw1 : Below w.heap.size w w1 := Below.trans (by repeat (first | (with_reducible assumption) | (with_reducible exact Below.refl _ _) | (with_reducible refine Below.drew ?_) | (with_reducible refine below_drewN ?_ _) | ((with_reducible refine Below.alloc ?_ ?_ _); rotate_left; (focus (first | exact Nat.le_refl _ | omega | (simp; done) | (simp; omega) | (simp at *; omega)))) | ((with_reducible refine Below.setCell ?_ ?_ _); rotate_left; (focus (first | exact Nat.le_refl _ | omega | (simp; done) | (simp; omega) | (simp at *; omega)))))) (hbw1.mono (by (focus (first | exact Nat.le_refl _ | omega | (simp; done) | (simp; omega) | (simp at *; omega)))))
        have kzw1 := kw1.size
        have lw1w0 : w.heap.size < w1.heap.size := by omega
        have lw1w1 : w.heap.size + 1 < w1.heap.size := by omega
        have lw1w2 : w.heap.size + 2 < w1.heap.size := by omega
        go_wp2_with fail
        refine (margin_any _ _).mono ?_
        rintro e w' ⟨rfl, rfl⟩
        go_wp2_with fail
        refine (rfault_any _ _ _).mono ?_
        rintro e w2 ⟨rfl, hbw2⟩
        obtain ⟨hcw2, hfw2⟩ := bcell hbw2
        have hzw2 := hbw2.size
        try simp at hzw2
        have kw2 : Below w.heap.size w w2 := Below.trans (by repeat (first | (with_reducible assumption) | (with_reducible exact Below.refl _ _) | (with_reducible refine Below.drew ?_) | (with_reducible refine below_drewN ?_ _) | ((with_reducible refine Below.alloc ?_ ?_ _); rotate_left; (focus (first | exact Nat.le_refl _ | omega | (simp; done) | (simp; omega) | (simp at *; omega)))) | ((with_reducible refine Below.setCell ?_ ?_ _); rotate_left; (focus (first | exact Nat.le_refl _ | omega | (simp; done) | (simp; omega) | (simp at *; omega)))))) (hbw2.mono (by (focus (first | exact Nat.le_refl _ | omega | (simp; done) | (simp; omega) | (simp at *; omega)))))
        have kzw2 := kw2.size
        have lw2w10 : w1.heap.size < w2.heap.size := by omega
        have lw2w0 : w.heap.size < w2.heap.size := by omega
        have lw2w1 : w.heap.size + 1 < w2.heap.size := by omega
        have lw2w2 : w.heap.size + 2 < w2.heap.size := by omega
        go_wp2
        refine bodyPost_ret (v := (.tuple #[iv 0 0 none 0 0, fv 4 (-3)])) (by simp [results, Try.results25, go_sem, *]) rfl ?_
        exact ⟨by rw [HF.out], (by repeat (first | (with_reducible assumption) | (with_reducible exact Below.refl _ _) | (with_reducible refine Below.drew ?_) | (with_reducible refine below_drewN ?_ _) | ((with_reducible refine Below.alloc ?_ ?_ _); rotate_left; (focus (first | exact Nat.le_refl _ | omega | (simp; done) | (simp; omega) | (simp at *; omega)))) | ((with_reducible refine Below.setCell ?_ ?_ _); rotate_left; (focus (first | exact Nat.le_refl _ | omega | (simp; done) | (simp; omega) | (simp at *; omega))))))⟩
    · have HF := Lib.hid (drawF_s (l := l) (t := t) hg (by omega : s < 3 ∨ 6 < s))
      clear hg h00 hb
      by_cases hs1 : s < 3
      · go_enter Try.func25, Try.ntmps25
        go_wp2_with fail
        refine (pValidate_any A n c p L R C _ hn hp (H2.out _ (by repeat (first | (with_reducible assumption) | (with_reducible exact Below.refl _ _) | (with_reducible refine Below.drew ?_) | (with_reducible refine below_drewN ?_ _) | ((with_reducible refine Below.alloc ?_ ?_ _); rotate_left; (focus (first | exact Nat.le_refl _ | omega | (simp; done) | (simp; omega) | (simp at *; omega)))) | ((with_reducible refine Below.setCell ?_ ?_ _); rotate_left; (focus (first | exact Nat.le_refl _ | omega | (simp; done) | (simp; omega) | (simp at *; omega)))))))).mono ?_
        rw [← HG.out]
        rintro e w1 ⟨rfl, hbw1⟩
        obtain ⟨hcw1, hfw1⟩ := bcell hbw1
        have hzw1 := hbw1.size
        try simp at hzw1
        have kw1 : Below w.heap.size w w1 := Below.trans (by repeat (first | (with_reducible assumption) | (with_reducible exact Below.refl _ _) | (with_reducible refine Below.drew ?_) | (with_reducible refine below_drewN ?_ _) | ((with_reducible refine Below.alloc ?_ ?_ _); rotate_left; (focus (first | exact Nat.le_refl _ | omega | (simp; done) | (simp; omega) | (simp at *; omega)))) | ((with_reducible refine Below.setCell ?_ ?_ _); rotate_left; (focus (first | exact Nat.le_refl _ | omega | (simp; done) | (simp; omega) | (simp at *; omega)))))) (hbw1.mono (by (focus (first | exact Nat.le_refl _ | omega | (simp; done) | (simp; omega) | (simp at *; omega)))))
        have kzw1 := kw1.size
        have lw1w0 : w.heap.size < w1.heap.size := by omega
        have lw1w1 : w.heap.size + 1 < w1.heap.size := by omega
        have lw1w2 : w.heap.size + 2 < w1.heap.size := by omega
        go_wp2_with fail
        refine (rfault_any _ _ _).mono ?_
        rintro e w2 ⟨rfl, hbw2⟩
        obtain ⟨hcw2, hfw2⟩ := bcell hbw2
        have hzw2 := hbw2.size
        try simp at hzw2
        have kw2 : Below w.heap.size w w2 := Below.trans (by repeat (first | (with_reducible assumption) | (with_reducible exact Below.refl _ _) | (with_reducible refine Below.drew ?_) | (with_reducible refine below_drewN ?_ _) | ((with_reducible refine Below.alloc ?_ ?_ _); rotate_left; (focus (first | exact Nat.le_refl _ | omega | (simp; done) | (simp; omega) | (simp at *; omega)))) | ((with_reducible refine Below.setCell ?_ ?_ _); rotate_left; (focus (first | exact Nat.le_refl _ | omega | (simp; done) | (simp; omega) | (simp at *; omega)))))) (hbw2.mono (by (focus (first | exact Nat.le_refl _ | omega | (simp; done) | (simp; omega) | (simp at *; omega)))))
        have kzw2 := kw2.size
        have lw2w10 : w1.heap.size < w2.heap.size := by omega
        have lw2w0 : w.heap.size < w2.heap.size := by omega
        have lw2w1 : w.heap.size + 1 < w2.heap.size := by omega
        have lw2w2 : w.heap.size + 2 < w2.heap.size := by omega
        go_wp2
        refine bodyPost_ret (v := (.tuple #[iv 0 0 none 0 0, fv 4 (-2)])) (by simp [results, Try.results25, go_sem, *]) rfl ?_
        exact ⟨by rw [HF.out], (by repeat (first | (with_reducible assumption) | (with_reducible exact Below.refl _ _) | (with_reducible refine Below.drew ?_) | (with_reducible refine below_drewN ?_ _) | ((with_reducible refine Below.alloc ?_ ?_ _); rotate_left; (focus (first | exact Nat.le_refl _ | omega | (simp; done) | (simp; omega) | (simp at *; omega)))) | ((with_reducible refine Below.setCell ?_ ?_ _); rotate_left; (focus (first | exact Nat.le_refl _ | omega | (simp; done) | (simp; omega) | (simp at *; omega))))))⟩
      · have hs2 : 6 < s := by omega
        go_enter Try.func25, Try.ntmps25
        go_wp2_with fail
        refine (pValidate_any A n c p L R C _ hn hp (H2.out _ (by repeat (first | (with_reducible assumption) | (with_reducible exact Below.refl _ _) | (with_reducible refine Below.drew ?_) | (with_reducible refine below_drewN ?_ _) | ((with_reducible refine Below.alloc ?_ ?_ _); rotate_left; (focus (first | exact Nat.le_refl _ | omega | (simp; done) | (simp; omega) | (simp at *; omega)))) | ((with_reducible refine Below.setCell ?_ ?_ _); rotate_left; (focus (first | exact Nat.le_refl _ | omega | (simp; done) | (simp; omega) | (simp at *; omega)))))))).mono ?_
        rw [← HG.out]
        rintro e w1 ⟨rfl, hbw1⟩
        obtain ⟨hcw1, hfw1⟩ := bcell hbw1
        have hzw1 := hbw1.size
        try simp at hzw1
        have kw1 : Below w.heap.size w w1 := Below.trans (by repeat (first | (with_reducible assumption) | (with_reducible exact Below.refl _ _) | (with_reducible refine Below.drew ?_) | (with_reducible refine below_drewN ?_ _) | ((with_reducible refine Below.alloc ?_ ?_ _); rotate_left; (focus (first | exact Nat.le_refl _ | omega | (simp; done) | (simp; omega) | (simp at *; omega)))) | ((with_reducible refine Below.setCell ?_ ?_ _); rotate_left; (focus (first | exact Nat.le_refl _ | omega | (simp; done) | (simp; omega) | (simp at *; omega)))))) (hbw1.mono (by (focus (first | exact Nat.le_refl _ | omega | (simp; done) | (simp; omega) | (simp at *; omega)))))
        have kzw1 := kw1.size
        have lw1w0 : w.heap.size < w1.heap.size := by omega
        have lw1w1 : w.heap.size + 1 < w1.heap.size := by omega
        have lw1w2 : w.heap.size + 2 < w1.heap.size := by omega
        go_wp2_with fail
        refine (rfault_any _ _ _).mono ?_
        rintro e w2 ⟨rfl, hbw2⟩
        obtain ⟨hcw2, hfw2⟩ := bcell hbw2
        have hzw2 := hbw2.size
        try simp at hzw2
        have kw2 : Below w.heap.size w w2 := Below.trans (by repeat (first | (with_reducible assumption) | (with_reducible exact Below.refl _ _) | (with_reducible refine Below.drew ?_) | (with_reducible refine below_drewN ?_ _) | ((with_reducible refine Below.alloc ?_ ?_ _); rotate_left; (focus (first | exact Nat.le_refl _ | omega | (simp; done) | (simp; omega) | (simp at *; omega)))) | ((with_reducible refine Below.setCell ?_ ?_ _); rotate_left; (focus (first | exact Nat.le_refl _ | omega | (simp; done) | (simp; omega) | (simp at *; omega)))))) (hbw2.mono (by (focus (first | exact Nat.le_refl _ | omega | (simp; done) | (simp; omega) | (simp at *; omega)))))
        have kzw2 := kw2.size
        have lw2w10 : w1.heap.size < w2.heap.size := by omega
        have lw2w0 : w.heap.size < w2.heap.size := by omega
        have lw2w1 : w.heap.size + 1 < w2.heap.size := by omega
        have lw2w2 : w.heap.size + 2 < w2.heap.size := by omega
        go_wp2
        refine bodyPost_ret (v := (.tuple #[iv 0 0 none 0 0, fv 4 (-2)])) (by simp [results, Try.results25, go_sem, *]) rfl ?_
        exact ⟨by rw [HF.out], (by repeat (first | (with_reducible assumption) | (with_reducible exact Below.refl _ _) | (with_reducible refine Below.drew ?_) | (with_reducible refine below_drewN ?_ _) | ((with_reducible refine Below.alloc ?_ ?_ _); rotate_left; (focus (first | exact Nat.le_refl _ | omega | (simp; done) | (simp; omega) | (simp at *; omega)))) | ((with_reducible refine Below.setCell ?_ ?_ _); rotate_left; (focus (first | exact Nat.le_refl _ | omega | (simp; done) | (simp; omega) | (simp at *; omega))))))⟩
  · have HF := Lib.hid (drawF_g (s := s) (l := l) (t := t) hg)
    have t0 : (gf.1 == 0) = false := by simp [hg]
    clear hg h00 hb
    go_enter Try.func25, Try.ntmps25
    go_wp2_with fail
    refine (pValidate_any A n c p L R C _ hn hp (H2.out _ (by repeat (first | (with_reducible assumption) | (with_reducible exact Below.refl _ _) | (with_reducible refine Below.drew ?_) | (with_reducible refine below_drewN ?_ _) | ((with_reducible refine Below.alloc ?_ ?_ _); rotate_left; (focus (first | exact Nat.le_refl _ | omega | (simp; done) | (simp; omega) | (simp at *; omega)))) | ((with_reducible refine Below.setCell ?_ ?_ _); rotate_left; (focus (first | exact Nat.le_refl _ | omega | (simp; done) | (simp; omega) | (simp at *; omega)))))))).mono ?_
    rw [← HG.out]
    rintro e w1 ⟨rfl, hbw1⟩
    obtain ⟨hcw1, hfw1⟩ := bcell hbw1
    have hzw1 := hbw1.size
    try simp at hzw1
    have kw1 : Below w.heap.size w w1 := Below.trans (by repeat (first | (with_reducible assumption) | (with_reducible exact Below.refl _ _) | (with_reducible refine Below.drew ?_) | (with_reducible refine below_drewN ?_ _) | ((with_reducible refine Below.alloc ?_ ?_ _); rotate_left; (focus (first | exact Nat.le_refl _ | omega | (simp; done) | (simp; omega) | (simp at *; omega)))) | ((with_reducible refine Below.setCell ?_ ?_ _); rotate_left; (focus (first | exact Nat.le_refl _ | omega | (simp; done) | (simp; omega) | (simp at *; omega)))))) (hbw1.mono (by (focus (first | exact Nat.le_refl _ | omega | (simp; done) | (simp; omega) | (simp at *; omega)))))
    have kzw1 := kw1.size
    have lw1w0 : w.heap.size < w1.heap.size := by omega
    have lw1w1 : w.heap.size + 1 < w1.heap.size := by omega
    have lw1w2 : w.heap.size + 2 < w1.heap.size := by omega
    go_wp2
    go_region
    go_wp2
    refine bodyPost_ret (v := (.tuple #[iv 0 0 none 0 0, fv gf.1 gf.2])) (by simp [results, Try.results25, go_sem, *]) rfl ?_
    exact ⟨by rw [HF.out], (by repeat (first | (with_reducible assumption) | (with_reducible exact Below.refl _ _) | (with_reducible refine Below.drew ?_) | (with_reducible refine below_drewN ?_ _) | ((with_reducible refine Below.alloc ?_ ?_ _); rotate_left; (focus (first | exact Nat.le_refl _ | omega | (simp; done) | (simp; omega) | (simp at *; omega)))) | ((with_reducible refine Below.setCell ?_ ?_ _); rotate_left; (focus (first | exact Nat.le_refl _ | omega | (simp; done) | (simp; omega) | (simp at *; omega))))))⟩

end Go.Proofs.Ytpdjiokmafoppaa
