/- distort.checkShifts and ref6.ShiftFault: the one fault shF. Conditions: the numbers read. -/
import Derived.Test.YtpdjiokmafoppaaLists
namespace Go.Proofs.Ytpdjiokmafoppaa
open Go.RowKit

/-- The fault of shifts of an image (i: the image's fault, l: the list's). -/
def shF (i l : Int × Int) (s : Int) : Int × Int := if i.1 ≠ 0 then i else if l.1 ≠ 0 then l else if 640 < s then (14, -1) else (0, 0)
theorem shF_i {i l : Int × Int} {s : Int} (h : i.1 ≠ 0) : shF i l s = i := by unfold shF; rw [if_pos h]
theorem shF_l {l : Int × Int} {s : Int} (h : l.1 ≠ 0) : shF (0, 0) l s = l := by unfold shF; rw [if_neg (by decide), if_pos h]
theorem shF_s {s : Int} (h : 640 < s) : shF (0, 0) (0, 0) s = (14, -1) := by unfold shF; rw [if_neg (by decide), if_neg (by decide), if_pos h]
theorem shF_0 {s : Int} (h : s ≤ 640) : shF (0, 0) (0, 0) s = (0, 0) := by unfold shF; rw [if_neg (by decide), if_neg (by decide), if_neg (by omega)]

set_option maxHeartbeats 2000000 in
theorem checkShifts_any (A B : Option Addr) (n c m d : Nat) (W H s : Int) (p : Nat → Int) (w : World) (hr : RdI w B m p) (hs : s = W ∨ s = H) :
    Calls Try.prog 121 #[iv W H A n c, .slice B m d, .int .i64 s] w fun e w' =>
      e = .returned (fv (shF (imgF W H n) (lsF p 0 24 m) (s + moF p m)).1 (shF (imgF W H n) (lsF p 0 24 m) (s + moF p m)).2) ∧ Below w.heap.size w w' := by
  have H2 := rd_later hr
  clear hr
  rcases imgF_cases W H n with hi | hi
  · have hs1 : 1 ≤ s ∧ s ≤ 640 := by have a1 := hi.w1; have a2 := hi.w2; have a3 := hi.h1; have a4 := hi.h2; omega
    have HF := Lib.hid (imgF_ok hi)
    rw [HF.out]
    clear hi hs
    rcases lsF_cases p 0 24 m with hl | ⟨hl, hm, hb⟩
    · rw [shF_l hl]
      obtain ⟨c0, i0, hci⟩ : ∃ c0 i0, lsF p 0 24 m = (c0, i0) := ⟨_, _, rfl⟩
      have hb0 : (c0 == 0) = false := by rw [hci] at hl; simpa using hl
      have HCI := Lib.hid hci
      rw [HCI.out]
      clear hl hci
      go_enter Try.func121, Try.ntmps121
      go_wp2_with fail
      refine (rValidate_any A n c W H _).mono ?_
      rw [HF.out]
      rintro e w1 ⟨rfl, hbw1⟩
      obtain ⟨hcw1, hfw1⟩ := bcell hbw1
      have hzw1 := hbw1.size
      try simp at hzw1
      have kw1 : Below w.heap.size w w1 := Below.trans (by repeat (first | (with_reducible assumption) | (with_reducible exact Below.refl _ _) | (with_reducible refine Below.drew ?_) | (with_reducible refine below_drewN ?_ _) | ((with_reducible refine Below.alloc ?_ ?_ _); rotate_left; (focus (first | exact Nat.le_refl _ | omega | (simp; done) | (simp; omega) | (simp at *; omega)))) | ((with_reducible refine Below.setCell ?_ ?_ _); rotate_left; (focus (first | exact Nat.le_refl _ | omega | (simp; done) | (simp; omega) | (simp at *; omega)))))) (hbw1.mono (by (focus (first | exact Nat.le_refl _ | omega | (simp; done) | (simp; omega) | (simp at *; omega)))))
      have kzw1 := kw1.size
      have lw1w0 : w.heap.size < w1.heap.size := by omega
      have lw1w1 : w.heap.size + 1 < w1.heap.size := by omega
      go_wp2_with fail
      refine (checkList_any B m d p 0 24 _ (H2.out _ (by repeat (first | (with_reducible assumption) | (with_reducible exact Below.refl _ _) | (with_reducible refine Below.drew ?_) | (with_reducible refine below_drewN ?_ _) | ((with_reducible refine Below.alloc ?_ ?_ _); rotate_left; (focus (first | exact Nat.le_refl _ | omega | (simp; done) | (simp; omega) | (simp at *; omega)))) | ((with_reducible refine Below.setCell ?_ ?_ _); rotate_left; (focus (first | exact Nat.le_refl _ | omega | (simp; done) | (simp; omega) | (simp at *; omega)))))))).mono ?_
      rw [HCI.out]
      rintro e w2 ⟨rfl, hbw2⟩
      obtain ⟨hcw2, hfw2⟩ := bcell hbw2
      have hzw2 := hbw2.size
      try simp at hzw2
      have kw2 : Below w.heap.size w w2 := Below.trans (by repeat (first | (with_reducible assumption) | (with_reducible exact Below.refl _ _) | (with_reducible refine Below.drew ?_) | (with_reducible refine below_drewN ?_ _) | ((with_reducible refine Below.alloc ?_ ?_ _); rotate_left; (focus (first | exact Nat.le_refl _ | omega | (simp; done) | (simp; omega) | (simp at *; omega)))) | ((with_reducible refine Below.setCell ?_ ?_ _); rotate_left; (focus (first | exact Nat.le_refl _ | omega | (simp; done) | (simp; omega) | (simp at *; omega)))))) (hbw2.mono (by (focus (first | exact Nat.le_refl _ | omega | (simp; done) | (simp; omega) | (simp at *; omega)))))
      have kzw2 := kw2.size
      have lw2w10 : w1.heap.size < w2.heap.size := by omega
      have lw2w0 : w.heap.size < w2.heap.size := by omega
      have lw2w1 : w.heap.size + 1 < w2.heap.size := by omega
      go_wp2
      refine bodyPost_ret (v := (fv c0 i0)) (by simp [results, Try.results121, go_sem, *]) rfl ?_
      exact ⟨rfl, (by repeat (first | (with_reducible assumption) | (with_reducible exact Below.refl _ _) | (with_reducible refine Below.drew ?_) | (with_reducible refine below_drewN ?_ _) | ((with_reducible refine Below.alloc ?_ ?_ _); rotate_left; (focus (first | exact Nat.le_refl _ | omega | (simp; done) | (simp; omega) | (simp at *; omega)))) | ((with_reducible refine Below.setCell ?_ ?_ _); rotate_left; (focus (first | exact Nat.le_refl _ | omega | (simp; done) | (simp; omega) | (simp at *; omega))))))⟩
    · rw [hl]
      have HL := Lib.hid hl
      have mb := moF_bd (p := p) (n := m) (b := 24) (by omega) (fun i hi => (hb i hi).2)
      have HB := Lib.hid hb
      clear hl hb
      by_cases h0 : m = 0
      · subst h0
        rw [shF_0 (by show s + 0 ≤ 640; omega)]
        go_enter Try.func121, Try.ntmps121
        go_wp2_with fail
        refine (rValidate_any A n c W H _).mono ?_
        rw [HF.out]
        rintro e w1 ⟨rfl, hbw1⟩
        obtain ⟨hcw1, hfw1⟩ := bcell hbw1
        have hzw1 := hbw1.size
        try simp at hzw1
        have kw1 : Below w.heap.size w w1 := Below.trans (by repeat (first | (with_reducible assumption) | (with_reducible exact Below.refl _ _) | (with_reducible refine Below.drew ?_) | (with_reducible refine below_drewN ?_ _) | ((with_reducible refine Below.alloc ?_ ?_ _); rotate_left; (focus (first | exact Nat.le_refl _ | omega | (simp; done) | (simp; omega) | (simp at *; omega)))) | ((with_reducible refine Below.setCell ?_ ?_ _); rotate_left; (focus (first | exact Nat.le_refl _ | omega | (simp; done) | (simp; omega) | (simp at *; omega)))))) (hbw1.mono (by (focus (first | exact Nat.le_refl _ | omega | (simp; done) | (simp; omega) | (simp at *; omega)))))
        have kzw1 := kw1.size
        have lw1w0 : w.heap.size < w1.heap.size := by omega
        have lw1w1 : w.heap.size + 1 < w1.heap.size := by omega
        go_wp2_with fail
        refine (checkList_any B 0 d p 0 24 _ (H2.out _ (by repeat (first | (with_reducible assumption) | (with_reducible exact Below.refl _ _) | (with_reducible refine Below.drew ?_) | (with_reducible refine below_drewN ?_ _) | ((with_reducible refine Below.alloc ?_ ?_ _); rotate_left; (focus (first | exact Nat.le_refl _ | omega | (simp; done) | (simp; omega) | (simp at *; omega)))) | ((with_reducible refine Below.setCell ?_ ?_ _); rotate_left; (focus (first | exact Nat.le_refl _ | omega | (simp; done) | (simp; omega) | (simp at *; omega)))))))).mono ?_
        rw [HL.out]
        rintro e w2 ⟨rfl, hbw2⟩
        obtain ⟨hcw2, hfw2⟩ := bcell hbw2
        have hzw2 := hbw2.size
        try simp at hzw2
        have kw2 : Below w.heap.size w w2 := Below.trans (by repeat (first | (with_reducible assumption) | (with_reducible exact Below.refl _ _) | (with_reducible refine Below.drew ?_) | (with_reducible refine below_drewN ?_ _) | ((with_reducible refine Below.alloc ?_ ?_ _); rotate_left; (focus (first | exact Nat.le_refl _ | omega | (simp; done) | (simp; omega) | (simp at *; omega)))) | ((with_reducible refine Below.setCell ?_ ?_ _); rotate_left; (focus (first | exact Nat.le_refl _ | omega | (simp; done) | (simp; omega) | (simp at *; omega)))))) (hbw2.mono (by (focus (first | exact Nat.le_refl _ | omega | (simp; done) | (simp; omega) | (simp at *; omega)))))
        have kzw2 := kw2.size
        have lw2w10 : w1.heap.size < w2.heap.size := by omega
        have lw2w0 : w.heap.size < w2.heap.size := by omega
        have lw2w1 : w.heap.size + 1 < w2.heap.size := by omega
        go_wp2
        refine bodyPost_ret (v := (fv 0 0)) (by simp [results, Try.results121, go_sem, *]) rfl ?_
        exact ⟨rfl, (by repeat (first | (with_reducible assumption) | (with_reducible exact Below.refl _ _) | (with_reducible refine Below.drew ?_) | (with_reducible refine below_drewN ?_ _) | ((with_reducible refine Below.alloc ?_ ?_ _); rotate_left; (focus (first | exact Nat.le_refl _ | omega | (simp; done) | (simp; omega) | (simp at *; omega)))) | ((with_reducible refine Below.setCell ?_ ?_ _); rotate_left; (focus (first | exact Nat.le_refl _ | omega | (simp; done) | (simp; omega) | (simp at *; omega))))))⟩
      · have m1 : 0 < m := by omega
        have m2 : (0 : Int) < (m : Int) := by omega
        by_cases hbig : 640 < s + moF p m
        · rw [shF_s hbig]
          go_enter Try.func121, Try.ntmps121
          go_wp2_with fail
          refine (rValidate_any A n c W H _).mono ?_
          rw [HF.out]
          rintro e w1 ⟨rfl, hbw1⟩
          obtain ⟨hcw1, hfw1⟩ := bcell hbw1
          have hzw1 := hbw1.size
          try simp at hzw1
          have kw1 : Below w.heap.size w w1 := Below.trans (by repeat (first | (with_reducible assumption) | (with_reducible exact Below.refl _ _) | (with_reducible refine Below.drew ?_) | (with_reducible refine below_drewN ?_ _) | ((with_reducible refine Below.alloc ?_ ?_ _); rotate_left; (focus (first | exact Nat.le_refl _ | omega | (simp; done) | (simp; omega) | (simp at *; omega)))) | ((with_reducible refine Below.setCell ?_ ?_ _); rotate_left; (focus (first | exact Nat.le_refl _ | omega | (simp; done) | (simp; omega) | (simp at *; omega)))))) (hbw1.mono (by (focus (first | exact Nat.le_refl _ | omega | (simp; done) | (simp; omega) | (simp at *; omega)))))
          have kzw1 := kw1.size
          have lw1w0 : w.heap.size < w1.heap.size := by omega
          have lw1w1 : w.heap.size + 1 < w1.heap.size := by omega
          go_wp2_with fail
          refine (checkList_any B m d p 0 24 _ (H2.out _ (by repeat (first | (with_reducible assumption) | (with_reducible exact Below.refl _ _) | (with_reducible refine Below.drew ?_) | (with_reducible refine below_drewN ?_ _) | ((with_reducible refine Below.alloc ?_ ?_ _); rotate_left; (focus (first | exact Nat.le_refl _ | omega | (simp; done) | (simp; omega) | (simp at *; omega)))) | ((with_reducible refine Below.setCell ?_ ?_ _); rotate_left; (focus (first | exact Nat.le_refl _ | omega | (simp; done) | (simp; omega) | (simp at *; omega)))))))).mono ?_
          rw [HL.out]
          rintro e w2 ⟨rfl, hbw2⟩
          obtain ⟨hcw2, hfw2⟩ := bcell hbw2
          have hzw2 := hbw2.size
          try simp at hzw2
          have kw2 : Below w.heap.size w w2 := Below.trans (by repeat (first | (with_reducible assumption) | (with_reducible exact Below.refl _ _) | (with_reducible refine Below.drew ?_) | (with_reducible refine below_drewN ?_ _) | ((with_reducible refine Below.alloc ?_ ?_ _); rotate_left; (focus (first | exact Nat.le_refl _ | omega | (simp; done) | (simp; omega) | (simp at *; omega)))) | ((with_reducible refine Below.setCell ?_ ?_ _); rotate_left; (focus (first | exact Nat.le_refl _ | omega | (simp; done) | (simp; omega) | (simp at *; omega)))))) (hbw2.mono (by (focus (first | exact Nat.le_refl _ | omega | (simp; done) | (simp; omega) | (simp at *; omega)))))
          have kzw2 := kw2.size
          have lw2w10 : w1.heap.size < w2.heap.size := by omega
          have lw2w0 : w.heap.size < w2.heap.size := by omega
          have lw2w1 : w.heap.size + 1 < w2.heap.size := by omega
          go_wp2_with fail
          refine (Max_ok B m d p _ (H2.out _ (by repeat (first | (with_reducible assumption) | (with_reducible exact Below.refl _ _) | (with_reducible refine Below.drew ?_) | (with_reducible refine below_drewN ?_ _) | ((with_reducible refine Below.alloc ?_ ?_ _); rotate_left; (focus (first | exact Nat.le_refl _ | omega | (simp; done) | (simp; omega) | (simp at *; omega)))) | ((with_reducible refine Below.setCell ?_ ?_ _); rotate_left; (focus (first | exact Nat.le_refl _ | omega | (simp; done) | (simp; omega) | (simp at *; omega))))))) m1 hm HB.out).mono ?_
          rintro e w' ⟨rfl, rfl⟩
          go_wp2_with fail
          refine (dfault_any _ _ _).mono ?_
          rintro e w3 ⟨rfl, hbw3⟩
          obtain ⟨hcw3, hfw3⟩ := bcell hbw3
          have hzw3 := hbw3.size
          try simp at hzw3
          have kw3 : Below w.heap.size w w3 := Below.trans (by repeat (first | (with_reducible assumption) | (with_reducible exact Below.refl _ _) | (with_reducible refine Below.drew ?_) | (with_reducible refine below_drewN ?_ _) | ((with_reducible refine Below.alloc ?_ ?_ _); rotate_left; (focus (first | exact Nat.le_refl _ | omega | (simp; done) | (simp; omega) | (simp at *; omega)))) | ((with_reducible refine Below.setCell ?_ ?_ _); rotate_left; (focus (first | exact Nat.le_refl _ | omega | (simp; done) | (simp; omega) | (simp at *; omega)))))) (hbw3.mono (by (focus (first | exact Nat.le_refl _ | omega | (simp; done) | (simp; omega) | (simp at *; omega)))))
          have kzw3 := kw3.size
          have lw3w20 : w2.heap.size < w3.heap.size := by omega
          have lw3w10 : w1.heap.size < w3.heap.size := by omega
          have lw3w0 : w.heap.size < w3.heap.size := by omega
          have lw3w1 : w.heap.size + 1 < w3.heap.size := by omega
          go_wp2
          refine bodyPost_ret (v := (fv 14 (-1))) (by simp [results, Try.results121, go_sem, *]) rfl ?_
          exact ⟨rfl, (by repeat (first | (with_reducible assumption) | (with_reducible exact Below.refl _ _) | (with_reducible refine Below.drew ?_) | (with_reducible refine below_drewN ?_ _) | ((with_reducible refine Below.alloc ?_ ?_ _); rotate_left; (focus (first | exact Nat.le_refl _ | omega | (simp; done) | (simp; omega) | (simp at *; omega)))) | ((with_reducible refine Below.setCell ?_ ?_ _); rotate_left; (focus (first | exact Nat.le_refl _ | omega | (simp; done) | (simp; omega) | (simp at *; omega))))))⟩
        · rw [shF_0 (by omega)]
          go_enter Try.func121, Try.ntmps121
          go_wp2_with fail
          refine (rValidate_any A n c W H _).mono ?_
          rw [HF.out]
          rintro e w1 ⟨rfl, hbw1⟩
          obtain ⟨hcw1, hfw1⟩ := bcell hbw1
          have hzw1 := hbw1.size
          try simp at hzw1
          have kw1 : Below w.heap.size w w1 := Below.trans (by repeat (first | (with_reducible assumption) | (with_reducible exact Below.refl _ _) | (with_reducible refine Below.drew ?_) | (with_reducible refine below_drewN ?_ _) | ((with_reducible refine Below.alloc ?_ ?_ _); rotate_left; (focus (first | exact Nat.le_refl _ | omega | (simp; done) | (simp; omega) | (simp at *; omega)))) | ((with_reducible refine Below.setCell ?_ ?_ _); rotate_left; (focus (first | exact Nat.le_refl _ | omega | (simp; done) | (simp; omega) | (simp at *; omega)))))) (hbw1.mono (by (focus (first | exact Nat.le_refl _ | omega | (simp; done) | (simp; omega) | (simp at *; omega)))))
          have kzw1 := kw1.size
          have lw1w0 : w.heap.size < w1.heap.size := by omega
          have lw1w1 : w.heap.size + 1 < w1.heap.size := by omega
          go_wp2_with fail
          refine (checkList_any B m d p 0 24 _ (H2.out _ (by repeat (first | (with_reducible assumption) | (with_reducible exact Below.refl _ _) | (with_reducible refine Below.drew ?_) | (with_reducible refine below_drewN ?_ _) | ((with_reducible refine Below.alloc ?_ ?_ _); rotate_left; (focus (first | exact Nat.le_refl _ | omega | (simp; done) | (simp; omega) | (simp at *; omega)))) | ((with_reducible refine Below.setCell ?_ ?_ _); rotate_left; (focus (first | exact Nat.le_refl _ | omega | (simp; done) | (simp; omega) | (simp at *; omega)))))))).mono ?_
          rw [HL.out]
          rintro e w2 ⟨rfl, hbw2⟩
          obtain ⟨hcw2, hfw2⟩ := bcell hbw2
          have hzw2 := hbw2.size
          try simp at hzw2
          have kw2 : Below w.heap.size w w2 := Below.trans (by repeat (first | (with_reducible assumption) | (with_reducible exact Below.refl _ _) | (with_reducible refine Below.drew ?_) | (with_reducible refine below_drewN ?_ _) | ((with_reducible refine Below.alloc ?_ ?_ _); rotate_left; (focus (first | exact Nat.le_refl _ | omega | (simp; done) | (simp; omega) | (simp at *; omega)))) | ((with_reducible refine Below.setCell ?_ ?_ _); rotate_left; (focus (first | exact Nat.le_refl _ | omega | (simp; done) | (simp; omega) | (simp at *; omega)))))) (hbw2.mono (by (focus (first | exact Nat.le_refl _ | omega | (simp; done) | (simp; omega) | (simp at *; omega)))))
          have kzw2 := kw2.size
          have lw2w10 : w1.heap.size < w2.heap.size := by omega
          have lw2w0 : w.heap.size < w2.heap.size := by omega
          have lw2w1 : w.heap.size + 1 < w2.heap.size := by omega
          go_wp2_with fail
          refine (Max_ok B m d p _ (H2.out _ (by repeat (first | (with_reducible assumption) | (with_reducible exact Below.refl _ _) | (with_reducible refine Below.drew ?_) | (with_reducible refine below_drewN ?_ _) | ((with_reducible refine Below.alloc ?_ ?_ _); rotate_left; (focus (first | exact Nat.le_refl _ | omega | (simp; done) | (simp; omega) | (simp at *; omega)))) | ((with_reducible refine Below.setCell ?_ ?_ _); rotate_left; (focus (first | exact Nat.le_refl _ | omega | (simp; done) | (simp; omega) | (simp at *; omega))))))) m1 hm HB.out).mono ?_
          rintro e w' ⟨rfl, rfl⟩
          go_wp2
          refine bodyPost_ret (v := (fv 0 0)) (by simp [results, Try.results121, go_sem, *]) rfl ?_
          exact ⟨rfl, (by repeat (first | (with_reducible assumption) | (with_reducible exact Below.refl _ _) | (with_reducible refine Below.drew ?_) | (with_reducible refine below_drewN ?_ _) | ((with_reducible refine Below.alloc ?_ ?_ _); rotate_left; (focus (first | exact Nat.le_refl _ | omega | (simp; done) | (simp; omega) | (simp at *; omega)))) | ((with_reducible refine Below.setCell ?_ ?_ _); rotate_left; (focus (first | exact Nat.le_refl _ | omega | (simp; done) | (simp; omega) | (simp at *; omega))))))⟩
  · rw [shF_i hi]
    obtain ⟨c0, i0, hci⟩ : ∃ c0 i0, imgF W H n = (c0, i0) := ⟨_, _, rfl⟩
    have hb0 : (c0 == 0) = false := by rw [hci] at hi; simpa using hi
    have HCI := Lib.hid hci
    rw [HCI.out]
    clear hi hci hs
    go_enter Try.func121, Try.ntmps121
    go_wp2_with fail
    refine (rValidate_any A n c W H _).mono ?_
    rw [HCI.out]
    rintro e w1 ⟨rfl, hbw1⟩
    obtain ⟨hcw1, hfw1⟩ := bcell hbw1
    have hzw1 := hbw1.size
    try simp at hzw1
    have kw1 : Below w.heap.size w w1 := Below.trans (by repeat (first | (with_reducible assumption) | (with_reducible exact Below.refl _ _) | (with_reducible refine Below.drew ?_) | (with_reducible refine below_drewN ?_ _) | ((with_reducible refine Below.alloc ?_ ?_ _); rotate_left; (focus (first | exact Nat.le_refl _ | omega | (simp; done) | (simp; omega) | (simp at *; omega)))) | ((with_reducible refine Below.setCell ?_ ?_ _); rotate_left; (focus (first | exact Nat.le_refl _ | omega | (simp; done) | (simp; omega) | (simp at *; omega)))))) (hbw1.mono (by (focus (first | exact Nat.le_refl _ | omega | (simp; done) | (simp; omega) | (simp at *; omega)))))
    have kzw1 := kw1.size
    have lw1w0 : w.heap.size < w1.heap.size := by omega
    have lw1w1 : w.heap.size + 1 < w1.heap.size := by omega
    go_wp2
    refine bodyPost_ret (v := (fv c0 i0)) (by simp [results, Try.results121, go_sem, *]) rfl ?_
    exact ⟨rfl, (by repeat (first | (with_reducible assumption) | (with_reducible exact Below.refl _ _) | (with_reducible refine Below.drew ?_) | (with_reducible refine below_drewN ?_ _) | ((with_reducible refine Below.alloc ?_ ?_ _); rotate_left; (focus (first | exact Nat.le_refl _ | omega | (simp; done) | (simp; omega) | (simp at *; omega)))) | ((with_reducible refine Below.setCell ?_ ?_ _); rotate_left; (focus (first | exact Nat.le_refl _ | omega | (simp; done) | (simp; omega) | (simp at *; omega))))))⟩

set_option maxHeartbeats 2000000 in
theorem ShiftFault_any (A B : Option Addr) (n c m d : Nat) (W H s : Int) (p : Nat → Int) (w : World) (hr : RdI w B m p) (hs : s = W ∨ s = H) :
    Calls Try.prog 64 #[iv W H A n c, .slice B m d, .int .i64 s] w fun e w' =>
      e = .returned (fv (shF (imgF W H n) (lsF p 0 24 m) (s + moF p m)).1 (shF (imgF W H n) (lsF p 0 24 m) (s + moF p m)).2) ∧ Below w.heap.size w w' := by
  have H2 := rd_later hr
  clear hr
  rcases imgF_cases W H n with hi | hi
  · have hs1 : 1 ≤ s ∧ s ≤ 640 := by have a1 := hi.w1; have a2 := hi.w2; have a3 := hi.h1; have a4 := hi.h2; omega
    have HF := Lib.hid (imgF_ok hi)
    rw [HF.out]
    clear hi hs
    rcases lsF_cases p 0 24 m with hl | ⟨hl, hm, hb⟩
    · rw [shF_l hl]
      obtain ⟨c0, i0, hci⟩ : ∃ c0 i0, lsF p 0 24 m = (c0, i0) := ⟨_, _, rfl⟩
      have hb0 : (c0 != 0) = true := by rw [hci] at hl; simpa using hl
      have HCI := Lib.hid hci
      rw [HCI.out]
      clear hl hci
      go_enter Try.func64, Try.ntmps64
      go_wp2_with fail
      refine (ImageFault_any A n c W H _).mono ?_
      rw [HF.out]
      rintro e w1 ⟨rfl, hbw1⟩
      obtain ⟨hcw1, hfw1⟩ := bcell hbw1
      have hzw1 := hbw1.size
      try simp at hzw1
      have kw1 : Below w.heap.size w w1 := Below.trans (by repeat (first | (with_reducible assumption) | (with_reducible exact Below.refl _ _) | (with_reducible refine Below.drew ?_) | (with_reducible refine below_drewN ?_ _) | ((with_reducible refine Below.alloc ?_ ?_ _); rotate_left; (focus (first | exact Nat.le_refl _ | omega | (simp; done) | (simp; omega) | (simp at *; omega)))) | ((with_reducible refine Below.setCell ?_ ?_ _); rotate_left; (focus (first | exact Nat.le_refl _ | omega | (simp; done) | (simp; omega) | (simp at *; omega)))))) (hbw1.mono (by (focus (first | exact Nat.le_refl _ | omega | (simp; done) | (simp; omega) | (simp at *; omega)))))
      have kzw1 := kw1.size
      have lw1w0 : w.heap.size < w1.heap.size := by omega
      have lw1w1 : w.heap.size + 1 < w1.heap.size := by omega
      go_wp2_with fail
      refine (ListFault_any B m d p 0 24 _ (H2.out _ (by repeat (first | (with_reducible assumption) | (with_reducible exact Below.refl _ _) | (with_reducible refine Below.drew ?_) | (with_reducible refine below_drewN ?_ _) | ((with_reducible refine Below.alloc ?_ ?_ _); rotate_left; (focus (first | exact Nat.le_refl _ | omega | (simp; done) | (simp; omega) | (simp at *; omega)))) | ((with_reducible refine Below.setCell ?_ ?_ _); rotate_left; (focus (first | exact Nat.le_refl _ | omega | (simp; done) | (simp; omega) | (simp at *; omega)))))))).mono ?_
      rw [HCI.out]
      rintro e w2 ⟨rfl, hbw2⟩
      obtain ⟨hcw2, hfw2⟩ := bcell hbw2
      have hzw2 := hbw2.size
      try simp at hzw2
      have kw2 : Below w.heap.size w w2 := Below.trans (by repeat (first | (with_reducible assumption) | (with_reducible exact Below.refl _ _) | (with_reducible refine Below.drew ?_) | (with_reducible refine below_drewN ?_ _) | ((with_reducible refine Below.alloc ?_ ?_ _); rotate_left; (focus (first | exact Nat.le_refl _ | omega | (simp; done) | (simp; omega) | (simp at *; omega)))) | ((with_reducible refine Below.setCell ?_ ?_ _); rotate_left; (focus (first | exact Nat.le_refl _ | omega | (simp; done) | (simp; omega) | (simp at *; omega)))))) (hbw2.mono (by (focus (first | exact Nat.le_refl _ | omega | (simp; done) | (simp; omega) | (simp at *; omega)))))
      have kzw2 := kw2.size
      have lw2w10 : w1.heap.size < w2.heap.size := by omega
      have lw2w0 : w.heap.size < w2.heap.size := by omega
      have lw2w1 : w.heap.size + 1 < w2.heap.size := by omega
      go_wp2
      refine bodyPost_ret (v := (fv c0 i0)) (by simp [results, Try.results64, go_sem, *]) rfl ?_
      exact ⟨rfl, (by repeat (first | (with_reducible assumption) | (with_reducible exact Below.refl _ _) | (with_reducible refine Below.drew ?_) | (with_reducible refine below_drewN ?_ _) | ((with_reducible refine Below.alloc ?_ ?_ _); rotate_left; (focus (first | exact Nat.le_refl _ | omega | (simp; done) | (simp; omega) | (simp at *; omega)))) | ((with_reducible refine Below.setCell ?_ ?_ _); rotate_left; (focus (first | exact Nat.le_refl _ | omega | (simp; done) | (simp; omega) | (simp at *; omega))))))⟩
    · rw [hl]
      have HL := Lib.hid hl
      have mb := moF_bd (p := p) (n := m) (b := 24) (by omega) (fun i hi => (hb i hi).2)
      have hmx : m ≤ maxLen := by unfold maxLen; omega
      clear hl hb
      by_cases hbig : 640 < s + moF p m
      · rw [shF_s hbig]
        go_enter Try.func64, Try.ntmps64
        go_wp2_with fail
        refine (ImageFault_any A n c W H _).mono ?_
        rw [HF.out]
        rintro e w1 ⟨rfl, hbw1⟩
        obtain ⟨hcw1, hfw1⟩ := bcell hbw1
        have hzw1 := hbw1.size
        try simp at hzw1
        have kw1 : Below w.heap.size w w1 := Below.trans (by repeat (first | (with_reducible assumption) | (with_reducible exact Below.refl _ _) | (with_reducible refine Below.drew ?_) | (with_reducible refine below_drewN ?_ _) | ((with_reducible refine Below.alloc ?_ ?_ _); rotate_left; (focus (first | exact Nat.le_refl _ | omega | (simp; done) | (simp; omega) | (simp at *; omega)))) | ((with_reducible refine Below.setCell ?_ ?_ _); rotate_left; (focus (first | exact Nat.le_refl _ | omega | (simp; done) | (simp; omega) | (simp at *; omega)))))) (hbw1.mono (by (focus (first | exact Nat.le_refl _ | omega | (simp; done) | (simp; omega) | (simp at *; omega)))))
        have kzw1 := kw1.size
        have lw1w0 : w.heap.size < w1.heap.size := by omega
        have lw1w1 : w.heap.size + 1 < w1.heap.size := by omega
        go_wp2_with fail
        refine (ListFault_any B m d p 0 24 _ (H2.out _ (by repeat (first | (with_reducible assumption) | (with_reducible exact Below.refl _ _) | (with_reducible refine Below.drew ?_) | (with_reducible refine below_drewN ?_ _) | ((with_reducible refine Below.alloc ?_ ?_ _); rotate_left; (focus (first | exact Nat.le_refl _ | omega | (simp; done) | (simp; omega) | (simp at *; omega)))) | ((with_reducible refine Below.setCell ?_ ?_ _); rotate_left; (focus (first | exact Nat.le_refl _ | omega | (simp; done) | (simp; omega) | (simp at *; omega)))))))).mono ?_
        rw [HL.out]
        rintro e w2 ⟨rfl, hbw2⟩
        obtain ⟨hcw2, hfw2⟩ := bcell hbw2
        have hzw2 := hbw2.size
        try simp at hzw2
        have kw2 : Below w.heap.size w w2 := Below.trans (by repeat (first | (with_reducible assumption) | (with_reducible exact Below.refl _ _) | (with_reducible refine Below.drew ?_) | (with_reducible refine below_drewN ?_ _) | ((with_reducible refine Below.alloc ?_ ?_ _); rotate_left; (focus (first | exact Nat.le_refl _ | omega | (simp; done) | (simp; omega) | (simp at *; omega)))) | ((with_reducible refine Below.setCell ?_ ?_ _); rotate_left; (focus (first | exact Nat.le_refl _ | omega | (simp; done) | (simp; omega) | (simp at *; omega)))))) (hbw2.mono (by (focus (first | exact Nat.le_refl _ | omega | (simp; done) | (simp; omega) | (simp at *; omega)))))
        have kzw2 := kw2.size
        have lw2w10 : w1.heap.size < w2.heap.size := by omega
        have lw2w0 : w.heap.size < w2.heap.size := by omega
        have lw2w1 : w.heap.size + 1 < w2.heap.size := by omega
        go_wp2_with fail
        refine (Most_ok B m d p _ (H2.out _ (by repeat (first | (with_reducible assumption) | (with_reducible exact Below.refl _ _) | (with_reducible refine Below.drew ?_) | (with_reducible refine below_drewN ?_ _) | ((with_reducible refine Below.alloc ?_ ?_ _); rotate_left; (focus (first | exact Nat.le_refl _ | omega | (simp; done) | (simp; omega) | (simp at *; omega)))) | ((with_reducible refine Below.setCell ?_ ?_ _); rotate_left; (focus (first | exact Nat.le_refl _ | omega | (simp; done) | (simp; omega) | (simp at *; omega))))))) hmx).mono ?_
        rintro e w' ⟨rfl, rfl⟩
        go_wp2_with fail
        refine (At_any _ _ _).mono ?_
        rintro e w3 ⟨rfl, hbw3⟩
        obtain ⟨hcw3, hfw3⟩ := bcell hbw3
        have hzw3 := hbw3.size
        try simp at hzw3
        have kw3 : Below w.heap.size w w3 := Below.trans (by repeat (first | (with_reducible assumption) | (with_reducible exact Below.refl _ _) | (with_reducible refine Below.drew ?_) | (with_reducible refine below_drewN ?_ _) | ((with_reducible refine Below.alloc ?_ ?_ _); rotate_left; (focus (first | exact Nat.le_refl _ | omega | (simp; done) | (simp; omega) | (simp at *; omega)))) | ((with_reducible refine Below.setCell ?_ ?_ _); rotate_left; (focus (first | exact Nat.le_refl _ | omega | (simp; done) | (simp; omega) | (simp at *; omega)))))) (hbw3.mono (by (focus (first | exact Nat.le_refl _ | omega | (simp; done) | (simp; omega) | (simp at *; omega)))))
        have kzw3 := kw3.size
        have lw3w20 : w2.heap.size < w3.heap.size := by omega
        have lw3w10 : w1.heap.size < w3.heap.size := by omega
        have lw3w0 : w.heap.size < w3.heap.size := by omega
        have lw3w1 : w.heap.size + 1 < w3.heap.size := by omega
        go_wp2
        refine bodyPost_ret (v := (fv 14 (-1))) (by simp [results, Try.results64, go_sem, *]) rfl ?_
        exact ⟨rfl, (by repeat (first | (with_reducible assumption) | (with_reducible exact Below.refl _ _) | (with_reducible refine Below.drew ?_) | (with_reducible refine below_drewN ?_ _) | ((with_reducible refine Below.alloc ?_ ?_ _); rotate_left; (focus (first | exact Nat.le_refl _ | omega | (simp; done) | (simp; omega) | (simp at *; omega)))) | ((with_reducible refine Below.setCell ?_ ?_ _); rotate_left; (focus (first | exact Nat.le_refl _ | omega | (simp; done) | (simp; omega) | (simp at *; omega))))))⟩
      · rw [shF_0 (by omega)]
        go_enter Try.func64, Try.ntmps64
        go_wp2_with fail
        refine (ImageFault_any A n c W H _).mono ?_
        rw [HF.out]
        rintro e w1 ⟨rfl, hbw1⟩
        obtain ⟨hcw1, hfw1⟩ := bcell hbw1
        have hzw1 := hbw1.size
        try simp at hzw1
        have kw1 : Below w.heap.size w w1 := Below.trans (by repeat (first | (with_reducible assumption) | (with_reducible exact Below.refl _ _) | (with_reducible refine Below.drew ?_) | (with_reducible refine below_drewN ?_ _) | ((with_reducible refine Below.alloc ?_ ?_ _); rotate_left; (focus (first | exact Nat.le_refl _ | omega | (simp; done) | (simp; omega) | (simp at *; omega)))) | ((with_reducible refine Below.setCell ?_ ?_ _); rotate_left; (focus (first | exact Nat.le_refl _ | omega | (simp; done) | (simp; omega) | (simp at *; omega)))))) (hbw1.mono (by (focus (first | exact Nat.le_refl _ | omega | (simp; done) | (simp; omega) | (simp at *; omega)))))
        have kzw1 := kw1.size
        have lw1w0 : w.heap.size < w1.heap.size := by omega
        have lw1w1 : w.heap.size + 1 < w1.heap.size := by omega
        go_wp2_with fail
        refine (ListFault_any B m d p 0 24 _ (H2.out _ (by repeat (first | (with_reducible assumption) | (with_reducible exact Below.refl _ _) | (with_reducible refine Below.drew ?_) | (with_reducible refine below_drewN ?_ _) | ((with_reducible refine Below.alloc ?_ ?_ _); rotate_left; (focus (first | exact Nat.le_refl _ | omega | (simp; done) | (simp; omega) | (simp at *; omega)))) | ((with_reducible refine Below.setCell ?_ ?_ _); rotate_left; (focus (first | exact Nat.le_refl _ | omega | (simp; done) | (simp; omega) | (simp at *; omega)))))))).mono ?_
        rw [HL.out]
        rintro e w2 ⟨rfl, hbw2⟩
        obtain ⟨hcw2, hfw2⟩ := bcell hbw2
        have hzw2 := hbw2.size
        try simp at hzw2
        have kw2 : Below w.heap.size w w2 := Below.trans (by repeat (first | (with_reducible assumption) | (with_reducible exact Below.refl _ _) | (with_reducible refine Below.drew ?_) | (with_reducible refine below_drewN ?_ _) | ((with_reducible refine Below.alloc ?_ ?_ _); rotate_left; (focus (first | exact Nat.le_refl _ | omega | (simp; done) | (simp; omega) | (simp at *; omega)))) | ((with_reducible refine Below.setCell ?_ ?_ _); rotate_left; (focus (first | exact Nat.le_refl _ | omega | (simp; done) | (simp; omega) | (simp at *; omega)))))) (hbw2.mono (by (focus (first | exact Nat.le_refl _ | omega | (simp; done) | (simp; omega) | (simp at *; omega)))))
        have kzw2 := kw2.size
        have lw2w10 : w1.heap.size < w2.heap.size := by omega
        have lw2w0 : w.heap.size < w2.heap.size := by omega
        have lw2w1 : w.heap.size + 1 < w2.heap.size := by omega
        go_wp2_with fail
        refine (Most_ok B m d p _ (H2.out _ (by repeat (first | (with_reducible assumption) | (with_reducible exact Below.refl _ _) | (with_reducible refine Below.drew ?_) | (with_reducible refine below_drewN ?_ _) | ((with_reducible refine Below.alloc ?_ ?_ _); rotate_left; (focus (first | exact Nat.le_refl _ | omega | (simp; done) | (simp; omega) | (simp at *; omega)))) | ((with_reducible refine Below.setCell ?_ ?_ _); rotate_left; (focus (first | exact Nat.le_refl _ | omega | (simp; done) | (simp; omega) | (simp at *; omega))))))) hmx).mono ?_
        rintro e w' ⟨rfl, rfl⟩
        go_wp2_with fail
        refine (At_any _ _ _).mono ?_
        rintro e w3 ⟨rfl, hbw3⟩
        obtain ⟨hcw3, hfw3⟩ := bcell hbw3
        have hzw3 := hbw3.size
        try simp at hzw3
        have kw3 : Below w.heap.size w w3 := Below.trans (by repeat (first | (with_reducible assumption) | (with_reducible exact Below.refl _ _) | (with_reducible refine Below.drew ?_) | (with_reducible refine below_drewN ?_ _) | ((with_reducible refine Below.alloc ?_ ?_ _); rotate_left; (focus (first | exact Nat.le_refl _ | omega | (simp; done) | (simp; omega) | (simp at *; omega)))) | ((with_reducible refine Below.setCell ?_ ?_ _); rotate_left; (focus (first | exact Nat.le_refl _ | omega | (simp; done) | (simp; omega) | (simp at *; omega)))))) (hbw3.mono (by (focus (first | exact Nat.le_refl _ | omega | (simp; done) | (simp; omega) | (simp at *; omega)))))
        have kzw3 := kw3.size
        have lw3w20 : w2.heap.size < w3.heap.size := by omega
        have lw3w10 : w1.heap.size < w3.heap.size := by omega
        have lw3w0 : w.heap.size < w3.heap.size := by omega
        have lw3w1 : w.heap.size + 1 < w3.heap.size := by omega
        go_wp2
        refine bodyPost_ret (v := (fv 0 0)) (by simp [results, Try.results64, go_sem, *]) rfl ?_
        exact ⟨rfl, (by repeat (first | (with_reducible assumption) | (with_reducible exact Below.refl _ _) | (with_reducible refine Below.drew ?_) | (with_reducible refine below_drewN ?_ _) | ((with_reducible refine Below.alloc ?_ ?_ _); rotate_left; (focus (first | exact Nat.le_refl _ | omega | (simp; done) | (simp; omega) | (simp at *; omega)))) | ((with_reducible refine Below.setCell ?_ ?_ _); rotate_left; (focus (first | exact Nat.le_refl _ | omega | (simp; done) | (simp; omega) | (simp at *; omega))))))⟩
  · rw [shF_i hi]
    obtain ⟨c0, i0, hci⟩ : ∃ c0 i0, imgF W H n = (c0, i0) := ⟨_, _, rfl⟩
    have hb0 : (c0 != 0) = true := by rw [hci] at hi; simpa using hi
    have HCI := Lib.hid hci
    rw [HCI.out]
    clear hi hci hs
    go_enter Try.func64, Try.ntmps64
    go_wp2_with fail
    refine (ImageFault_any A n c W H _).mono ?_
    rw [HCI.out]
    rintro e w1 ⟨rfl, hbw1⟩
    obtain ⟨hcw1, hfw1⟩ := bcell hbw1
    have hzw1 := hbw1.size
    try simp at hzw1
    have kw1 : Below w.heap.size w w1 := Below.trans (by repeat (first | (with_reducible assumption) | (with_reducible exact Below.refl _ _) | (with_reducible refine Below.drew ?_) | (with_reducible refine below_drewN ?_ _) | ((with_reducible refine Below.alloc ?_ ?_ _); rotate_left; (focus (first | exact Nat.le_refl _ | omega | (simp; done) | (simp; omega) | (simp at *; omega)))) | ((with_reducible refine Below.setCell ?_ ?_ _); rotate_left; (focus (first | exact Nat.le_refl _ | omega | (simp; done) | (simp; omega) | (simp at *; omega)))))) (hbw1.mono (by (focus (first | exact Nat.le_refl _ | omega | (simp; done) | (simp; omega) | (simp at *; omega)))))
    have kzw1 := kw1.size
    have lw1w0 : w.heap.size < w1.heap.size := by omega
    have lw1w1 : w.heap.size + 1 < w1.heap.size := by omega
    go_wp2
    refine bodyPost_ret (v := (fv c0 i0)) (by simp [results, Try.results64, go_sem, *]) rfl ?_
    exact ⟨rfl, (by repeat (first | (with_reducible assumption) | (with_reducible exact Below.refl _ _) | (with_reducible refine Below.drew ?_) | (with_reducible refine below_drewN ?_ _) | ((with_reducible refine Below.alloc ?_ ?_ _); rotate_left; (focus (first | exact Nat.le_refl _ | omega | (simp; done) | (simp; omega) | (simp at *; omega)))) | ((with_reducible refine Below.setCell ?_ ?_ _); rotate_left; (focus (first | exact Nat.le_refl _ | omega | (simp; done) | (simp; omega) | (simp at *; omega))))))⟩

end Go.Proofs.Ytpdjiokmafoppaa
