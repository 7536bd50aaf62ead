/- The checks of lists of numbers: distort.checkList, ref6.ListFault; slices.Max and ref5.Most. Conditions: the numbers read. -/
import Derived.Test.YtpdjiokmafoppaaCompose
namespace Go.Proofs.Ytpdjiokmafoppaa
open Go.RowKit

/-- The first number that is out of range, or -1. -/
def liC (p : Nat → Int) (lo hi : Int) (n : Nat) : Int := ff (fun i => !(inB (p i) lo hi)) n
/-- The fault of a list. -/
def lsF (p : Nat → Int) (lo hi : Int) (n : Nat) : Int × Int := if 700 < n then (2, -2) else if 0 ≤ liC p lo hi n then (4, liC p lo hi n) else (0, 0)
theorem lsF_long {p : Nat → Int} {lo hi : Int} {n : Nat} (h : 700 < n) : lsF p lo hi n = (2, -2) := by unfold lsF; rw [if_pos h]
theorem lsF_hit {p : Nat → Int} {lo hi : Int} {n k : Nat} (h : n ≤ 700) (hk : liC p lo hi n = k) : lsF p lo hi n = (4, (k : Int)) := by unfold lsF; rw [if_neg (by omega), hk, if_pos (by omega)]
theorem lsF_ok {p : Nat → Int} {lo hi : Int} {n : Nat} (h : n ≤ 700) (hk : liC p lo hi n = -1) : lsF p lo hi n = (0, 0) := by unfold lsF; rw [if_neg (by omega), hk, if_neg (by omega)]
/-- A list is refused, or it is short and all of it is in range. -/
theorem lsF_cases (p : Nat → Int) (lo hi : Int) (n : Nat) : (lsF p lo hi n).1 ≠ 0 ∨ (lsF p lo hi n = (0, 0) ∧ n ≤ 700 ∧ ∀ i, i < n → lo ≤ p i ∧ p i ≤ hi) := by
  by_cases h : n ≤ 700
  · rcases ff_cases (fun i => !(inB (p i) lo hi)) n with ⟨e, hq⟩ | ⟨k, hk, hq, hb, e⟩
    · exact .inr ⟨lsF_ok h e, h, fun i hi => inB_iff.1 (by simpa using hq i hi)⟩
    · left; rw [lsF_hit h e]; show (4 : Int) ≠ 0; decide
  · left; rw [lsF_long (by omega)]; decide

set_option maxHeartbeats 1000000 in
theorem checkList_any (A : Option Addr) (n c : Nat) (p : Nat → Int) (lo hi : Int) (w : World) (hr : RdI w A n p) :
    Calls Try.prog 129 #[.slice A n c, .int .i64 lo, .int .i64 hi] w fun e w' => e = .returned (fv (lsF p lo hi n).1 (lsF p lo hi n).2) ∧ Below w.heap.size w w' := by
  have Hr := rd_later hr
  clear hr
  by_cases hn : 700 < n
  · have HF := Lib.hid (lsF_long (p := p) (lo := lo) (hi := hi) hn)
    have hn2 : (700 : Int) < (n : Int) := by omega
    go_enter Try.func129, Try.ntmps129
    go_wp2_with fail
    refine (dfault_any _ _ _).mono ?_
    rintro e w1 ⟨rfl, hbw1⟩
    obtain ⟨hcw1, hfw1⟩ := bcell hbw1
    have hzw1 := hbw1.size
    try simp at hzw1
    have kw1 : Below w.heap.size w w1 := Below.trans (by repeat (first | (with_reducible assumption) | (with_reducible exact Below.refl _ _) | (with_reducible refine Below.drew ?_) | (with_reducible refine below_drewN ?_ _) | ((with_reducible refine Below.alloc ?_ ?_ _); rotate_left; (focus (first | exact Nat.le_refl _ | omega | (simp; done) | (simp; omega) | (simp at *; omega)))) | ((with_reducible refine Below.setCell ?_ ?_ _); rotate_left; (focus (first | exact Nat.le_refl _ | omega | (simp; done) | (simp; omega) | (simp at *; omega)))))) (hbw1.mono (by (focus (first | exact Nat.le_refl _ | omega | (simp; done) | (simp; omega) | (simp at *; omega)))))
    have kzw1 := kw1.size
    have lw1w0 : w.heap.size < w1.heap.size := by omega
    go_wp2
    refine bodyPost_ret (v := (fv 2 (-2))) (by simp [results, Try.results129, go_sem, *]) rfl ?_
    exact ⟨by rw [HF.out], (by repeat (first | (with_reducible assumption) | (with_reducible exact Below.refl _ _) | (with_reducible refine Below.drew ?_) | (with_reducible refine below_drewN ?_ _) | ((with_reducible refine Below.alloc ?_ ?_ _); rotate_left; (focus (first | exact Nat.le_refl _ | omega | (simp; done) | (simp; omega) | (simp at *; omega)))) | ((with_reducible refine Below.setCell ?_ ?_ _); rotate_left; (focus (first | exact Nat.le_refl _ | omega | (simp; done) | (simp; omega) | (simp at *; omega))))))⟩
  · have hn2 : n ≤ 700 := by omega
    have HN := Lib.hid hn2
    go_enter Try.func129, Try.ntmps129
    go_wp2
    go_loopg [15] n (fun gk s wr => ∃ k : Nat, k ≤ n ∧ gk = n - k ∧ s = .int .i64 k ∧ Hid (∀ j, j < k → (!(inB (p j) lo hi)) = false) ∧ Blk wr w.heap.size 28 #[.int .i64 0, .int .i64 0] ∧ Below w.heap.size w wr)
    case atStart => exact ⟨0, by omega, rfl, rfl, Lib.hid (fun j hj => absurd hj (Nat.not_lt_zero _)), Blk.new _ _ _, (by repeat (first | (with_reducible assumption) | (with_reducible exact Below.refl _ _) | (with_reducible refine Below.drew ?_) | (with_reducible refine below_drewN ?_ _) | ((with_reducible refine Below.alloc ?_ ?_ _); rotate_left; (focus (first | exact Nat.le_refl _ | omega | (simp; done) | (simp; omega) | (simp at *; omega)))) | ((with_reducible refine Below.setCell ?_ ?_ _); rotate_left; (focus (first | exact Nat.le_refl _ | omega | (simp; done) | (simp; omega) | (simp at *; omega))))))⟩
    case round =>
      obtain ⟨k, hk, rfl, rfl, Hq, hB, hbel⟩ := hrel
      have cb := hB.cell
      have fb := hB.frozen
      have HB := Lib.hid hB
      have lb := hB.lt
      by_cases hlt : k < n
      · obtain ⟨b, off, rfl, hc⟩ := Hr.out _ hbel (by omega)
        have hck := hc k hlt
        clear hc hB
        by_cases h1 : p k < lo
        · have HF : Hid (lsF p lo hi n = (4, (k : Int))) := Lib.hid (lsF_hit HN.out (ff_hit hlt (by simp [inB]; omega) Hq.out))
          go_wp2_with fail
          go_wp2_with fail
          refine (dfault_any _ _ _).mono ?_
          rintro e w1 ⟨rfl, hbw1⟩
          obtain ⟨hcw1, hfw1⟩ := bcell hbw1
          have hzw1 := hbw1.size
          try simp at hzw1
          have kw1 : Below w.heap.size w w1 := Below.trans (by repeat (first | (with_reducible assumption) | (with_reducible exact Below.refl _ _) | (with_reducible refine Below.drew ?_) | (with_reducible refine below_drewN ?_ _) | ((with_reducible refine Below.alloc ?_ ?_ _); rotate_left; (focus (first | exact Nat.le_refl _ | omega | (simp; done) | (simp; omega) | (simp at *; omega)))) | ((with_reducible refine Below.setCell ?_ ?_ _); rotate_left; (focus (first | exact Nat.le_refl _ | omega | (simp; done) | (simp; omega) | (simp at *; omega)))))) (hbw1.mono (by (focus (first | exact Nat.le_refl _ | omega | (simp; done) | (simp; omega) | (simp at *; omega)))))
          have kzw1 := kw1.size
          have cb1 : ∀ o, w1.cell? ⟨w.heap.size, o, none⟩ = _ := fun o => (hbw1.cell (p := ⟨w.heap.size, o, none⟩) lb).trans (cb o)
          have fb1 : ∀ o, w1.frozen? ⟨w.heap.size, o, none⟩ = _ := fun o => (hbw1.frozen (p := ⟨w.heap.size, o, none⟩) lb).trans (fb o)
          go_wp2
          refine bodyPost_ret (v := (fv 4 k)) (by simp [results, Try.results129, go_sem, *]) rfl ?_
          exact ⟨by rw [HF.out], (by repeat (first | (with_reducible assumption) | (with_reducible exact Below.refl _ _) | (with_reducible refine Below.drew ?_) | (with_reducible refine below_drewN ?_ _) | ((with_reducible refine Below.alloc ?_ ?_ _); rotate_left; (focus (first | exact Nat.le_refl _ | omega | (simp; done) | (simp; omega) | (simp at *; omega)))) | ((with_reducible refine Below.setCell ?_ ?_ _); rotate_left; (focus (first | exact Nat.le_refl _ | omega | (simp; done) | (simp; omega) | (simp at *; omega))))))⟩
        · by_cases h2 : hi < p k
          · have HF : Hid (lsF p lo hi n = (4, (k : Int))) := Lib.hid (lsF_hit HN.out (ff_hit hlt (by simp [inB]; omega) Hq.out))
            go_wp2_with fail
            go_wp2_with fail
            refine (dfault_any _ _ _).mono ?_
            rintro e w1 ⟨rfl, hbw1⟩
            obtain ⟨hcw1, hfw1⟩ := bcell hbw1
            have hzw1 := hbw1.size
            try simp at hzw1
            have kw1 : Below w.heap.size w w1 := Below.trans (by repeat (first | (with_reducible assumption) | (with_reducible exact Below.refl _ _) | (with_reducible refine Below.drew ?_) | (with_reducible refine below_drewN ?_ _) | ((with_reducible refine Below.alloc ?_ ?_ _); rotate_left; (focus (first | exact Nat.le_refl _ | omega | (simp; done) | (simp; omega) | (simp at *; omega)))) | ((with_reducible refine Below.setCell ?_ ?_ _); rotate_left; (focus (first | exact Nat.le_refl _ | omega | (simp; done) | (simp; omega) | (simp at *; omega)))))) (hbw1.mono (by (focus (first | exact Nat.le_refl _ | omega | (simp; done) | (simp; omega) | (simp at *; omega)))))
            have kzw1 := kw1.size
            have cb1 : ∀ o, w1.cell? ⟨w.heap.size, o, none⟩ = _ := fun o => (hbw1.cell (p := ⟨w.heap.size, o, none⟩) lb).trans (cb o)
            have fb1 : ∀ o, w1.frozen? ⟨w.heap.size, o, none⟩ = _ := fun o => (hbw1.frozen (p := ⟨w.heap.size, o, none⟩) lb).trans (fb o)
            go_wp2
            refine bodyPost_ret (v := (fv 4 k)) (by simp [results, Try.results129, go_sem, *]) rfl ?_
            exact ⟨by rw [HF.out], (by repeat (first | (with_reducible assumption) | (with_reducible exact Below.refl _ _) | (with_reducible refine Below.drew ?_) | (with_reducible refine below_drewN ?_ _) | ((with_reducible refine Below.alloc ?_ ?_ _); rotate_left; (focus (first | exact Nat.le_refl _ | omega | (simp; done) | (simp; omega) | (simp at *; omega)))) | ((with_reducible refine Below.setCell ?_ ?_ _); rotate_left; (focus (first | exact Nat.le_refl _ | omega | (simp; done) | (simp; omega) | (simp at *; omega))))))⟩
          · have HN1 := Lib.hid (none_step (q := fun j => !(inB (p j) lo hi)) Hq.out (by simp [inB]; omega))
            go_wp2
            go_roundg (n - (k + 1))
            case measure => omega
            case rel => exact ⟨k + 1, by omega, rfl, by go_num, HN1, HB.out, hbel⟩
      · have HF : Hid (lsF p lo hi n = (0, 0)) := Lib.hid (lsF_ok HN.out (ff_none (fun j hj => Hq.out j (by omega))))
        go_wp2
        refine bodyPost_ret (v := (fv 0 0)) (by simp [results, Try.results129, go_sem, *]) rfl ?_
        exact ⟨by rw [HF.out], (by repeat (first | (with_reducible assumption) | (with_reducible exact Below.refl _ _) | (with_reducible refine Below.drew ?_) | (with_reducible refine below_drewN ?_ _) | ((with_reducible refine Below.alloc ?_ ?_ _); rotate_left; (focus (first | exact Nat.le_refl _ | omega | (simp; done) | (simp; omega) | (simp at *; omega)))) | ((with_reducible refine Below.setCell ?_ ?_ _); rotate_left; (focus (first | exact Nat.le_refl _ | omega | (simp; done) | (simp; omega) | (simp at *; omega))))))⟩

/-- The greatest of the first n numbers, and of 0. -/
def moF (p : Nat → Int) : Nat → Int
  | 0 => 0
  | k + 1 => max (moF p k) (p k)
theorem moF_bd {p : Nat → Int} {n : Nat} {b : Int} (hb : 0 ≤ b) (h : ∀ i, i < n → p i ≤ b) : 0 ≤ moF p n ∧ moF p n ≤ b := by
  induction n with
  | zero => exact ⟨Int.le_refl _, hb⟩
  | succ k ih =>
    have a := ih fun i hi => h i (by omega)
    have c := h k (by omega)
    simp only [moF]
    omega
theorem moF_le {p : Nat → Int} {n i : Nat} (h : i < n) : p i ≤ moF p n := by
  induction n with
  | zero => omega
  | succ k ih =>
    simp only [moF]
    by_cases e : i = k
    · subst e; omega
    · have := ih (by omega); omega

set_option maxHeartbeats 1000000 in
theorem Max_ok (A : Option Addr) (n c : Nat) (p : Nat → Int) (w : World) (hr : RdI w A n p) (hn : 0 < n) (hn2 : n ≤ 700) (h0 : ∀ i, i < n → 0 ≤ p i ∧ p i ≤ 24) :
    Calls Try.prog 123 #[.slice A n c] w fun e w' => e = .returned (.int .i64 (moF p n)) ∧ w = w' := by
  obtain ⟨b, off, rfl, hc⟩ := hr hn
  have HC := Lib.hid hc
  have hc0 := hc 0 hn
  rw [Nat.add_zero] at hc0
  have HP := Lib.hid h0
  have hn' : (0 : Int) < (n : Int) := by omega
  have hp0 : p 0 = moF p 1 := by have := (h0 0 hn).1; simp only [moF]; omega
  clear hc hr h0
  go_enter Try.func123, Try.ntmps123
  go_wp2
  go_loopg [3, 4] (n - 1) (fun gk s3 s4 wr => ∃ k : Nat, 1 ≤ k ∧ k ≤ n ∧ gk = n - k ∧ s3 = .int .i64 (moF p k) ∧ s4 = .int .i64 k ∧ w = wr)
  case atStart => exact ⟨1, by omega, by omega, by omega, by rw [← hp0], rfl, rfl⟩
  case round =>
    obtain ⟨k, hk1, hk, rfl, rfl, rfl, rfl⟩ := hrel
    by_cases hlt : k < n
    · have hck := HC.out k hlt
      have k0 : (0 : Int) ≤ (k : Int) := by omega
      have k1 : (k : Int) < (n : Int) := by omega
      clear hc0
      by_cases hm : moF p k < p k
      · have HE : Hid (moF p (k + 1) = p k) := Lib.hid (by simp only [moF]; omega)
        go_wp2
        go_roundg (n - (k + 1))
        case measure => omega
        case rel => exact ⟨k + 1, by omega, by omega, rfl, by rw [HE.out], by go_num, rfl⟩
      · have HE : Hid (moF p (k + 1) = moF p k) := Lib.hid (by simp only [moF]; omega)
        have hm2 : p k ≤ moF p k := by omega
        go_wp2
        go_roundg (n - (k + 1))
        case measure => omega
        case rel => exact ⟨k + 1, by omega, by omega, rfl, by rw [HE.out], by go_num, rfl⟩
    · obtain rfl : k = n := by omega
      go_wp2
      go_ret
      exact ⟨rfl, rfl⟩

set_option maxHeartbeats 1000000 in
theorem ListFault_any (A : Option Addr) (n c : Nat) (p : Nat → Int) (lo hi : Int) (w : World) (hr : RdI w A n p) :
    Calls Try.prog 71 #[.slice A n c, .int .i64 lo, .int .i64 hi] w fun e w' => e = .returned (fv (lsF p lo hi n).1 (lsF p lo hi n).2) ∧ Below w.heap.size w w' := by
  have Hr := rd_later hr
  clear hr
  by_cases hn : 700 < n
  · have HF := Lib.hid (lsF_long (p := p) (lo := lo) (hi := hi) hn)
    have hn2 : (700 : Int) < (n : Int) := by omega
    go_enter Try.func71, Try.ntmps71
    go_wp2_with fail
    refine (At_any _ _ _).mono ?_
    rintro e w1 ⟨rfl, hbw1⟩
    obtain ⟨hcw1, hfw1⟩ := bcell hbw1
    have hzw1 := hbw1.size
    try simp at hzw1
    have kw1 : Below w.heap.size w w1 := Below.trans (by repeat (first | (with_reducible assumption) | (with_reducible exact Below.refl _ _) | (with_reducible refine Below.drew ?_) | (with_reducible refine below_drewN ?_ _) | ((with_reducible refine Below.alloc ?_ ?_ _); rotate_left; (focus (first | exact Nat.le_refl _ | omega | (simp; done) | (simp; omega) | (simp at *; omega)))) | ((with_reducible refine Below.setCell ?_ ?_ _); rotate_left; (focus (first | exact Nat.le_refl _ | omega | (simp; done) | (simp; omega) | (simp at *; omega)))))) (hbw1.mono (by (focus (first | exact Nat.le_refl _ | omega | (simp; done) | (simp; omega) | (simp at *; omega)))))
    have kzw1 := kw1.size
    have lw1w0 : w.heap.size < w1.heap.size := by omega
    go_wp2
    refine bodyPost_ret (v := (fv 2 (-2))) (by simp [results, Try.results71, go_sem, *]) rfl ?_
    exact ⟨by rw [HF.out], (by repeat (first | (with_reducible assumption) | (with_reducible exact Below.refl _ _) | (with_reducible refine Below.drew ?_) | (with_reducible refine below_drewN ?_ _) | ((with_reducible refine Below.alloc ?_ ?_ _); rotate_left; (focus (first | exact Nat.le_refl _ | omega | (simp; done) | (simp; omega) | (simp at *; omega)))) | ((with_reducible refine Below.setCell ?_ ?_ _); rotate_left; (focus (first | exact Nat.le_refl _ | omega | (simp; done) | (simp; omega) | (simp at *; omega))))))⟩
  · have hn2 : n ≤ 700 := by omega
    have HN := Lib.hid hn2
    go_enter Try.func71, Try.ntmps71
    go_wp2
    go_loopg [7] n (fun gk s wr => ∃ k : Nat, k ≤ n ∧ gk = n - k ∧ s = .int .i64 k ∧ Hid (∀ j, j < k → (!(inB (p j) lo hi)) = false) ∧ Blk wr w.heap.size 28 #[.int .i64 0, .int .i64 0] ∧ Below w.heap.size w wr)
    case atStart => exact ⟨0, by omega, rfl, rfl, Lib.hid (fun j hj => absurd hj (Nat.not_lt_zero _)), Blk.new _ _ _, (by repeat (first | (with_reducible assumption) | (with_reducible exact Below.refl _ _) | (with_reducible refine Below.drew ?_) | (with_reducible refine below_drewN ?_ _) | ((with_reducible refine Below.alloc ?_ ?_ _); rotate_left; (focus (first | exact Nat.le_refl _ | omega | (simp; done) | (simp; omega) | (simp at *; omega)))) | ((with_reducible refine Below.setCell ?_ ?_ _); rotate_left; (focus (first | exact Nat.le_refl _ | omega | (simp; done) | (simp; omega) | (simp at *; omega))))))⟩
    case round =>
      obtain ⟨k, hk, rfl, rfl, Hq, hB, hbel⟩ := hrel
      have cb := hB.cell
      have fb := hB.frozen
      have HB := Lib.hid hB
      have lb := hB.lt
      by_cases hlt : k < n
      · obtain ⟨b, off, rfl, hc⟩ := Hr.out _ hbel (by omega)
        have hck := hc k hlt
        clear hc hB
        by_cases h1 : inB (p k) lo hi = true
        · have HN1 := Lib.hid (none_step (q := fun j => !(inB (p j) lo hi)) Hq.out (by simp [h1]))
          go_wp2_with fail
          refine (In_any _ _ _ _).mono ?_
          rintro e w' ⟨rfl, rfl⟩
          go_wp2
          go_roundg (n - (k + 1))
          case measure => omega
          case rel => exact ⟨k + 1, by omega, rfl, by go_num, HN1, HB.out, hbel⟩
        · have h2 : inB (p k) lo hi = false := by simpa using h1
          have HF : Hid (lsF p lo hi n = (4, (k : Int))) := Lib.hid (lsF_hit HN.out (ff_hit hlt (by simp [h2]) Hq.out))
          go_wp2_with fail
          refine (In_any _ _ _ _).mono ?_
          rintro e w' ⟨rfl, rfl⟩
          go_wp2_with fail
          refine (At_any _ _ _).mono ?_
          rintro e w1 ⟨rfl, hbw1⟩
          obtain ⟨hcw1, hfw1⟩ := bcell hbw1
          have hzw1 := hbw1.size
          try simp at hzw1
          have kw1 : Below w.heap.size w w1 := Below.trans (by repeat (first | (with_reducible assumption) | (with_reducible exact Below.refl _ _) | (with_reducible refine Below.drew ?_) | (with_reducible refine below_drewN ?_ _) | ((with_reducible refine Below.alloc ?_ ?_ _); rotate_left; (focus (first | exact Nat.le_refl _ | omega | (simp; done) | (simp; omega) | (simp at *; omega)))) | ((with_reducible refine Below.setCell ?_ ?_ _); rotate_left; (focus (first | exact Nat.le_refl _ | omega | (simp; done) | (simp; omega) | (simp at *; omega)))))) (hbw1.mono (by (focus (first | exact Nat.le_refl _ | omega | (simp; done) | (simp; omega) | (simp at *; omega)))))
          have kzw1 := kw1.size
          have cb1 : ∀ o, w1.cell? ⟨w.heap.size, o, none⟩ = _ := fun o => (hbw1.cell (p := ⟨w.heap.size, o, none⟩) lb).trans (cb o)
          have fb1 : ∀ o, w1.frozen? ⟨w.heap.size, o, none⟩ = _ := fun o => (hbw1.frozen (p := ⟨w.heap.size, o, none⟩) lb).trans (fb o)
          go_wp2
          refine bodyPost_ret (v := (fv 4 k)) (by simp [results, Try.results71, go_sem, *]) rfl ?_
          exact ⟨by rw [HF.out], (by repeat (first | (with_reducible assumption) | (with_reducible exact Below.refl _ _) | (with_reducible refine Below.drew ?_) | (with_reducible refine below_drewN ?_ _) | ((with_reducible refine Below.alloc ?_ ?_ _); rotate_left; (focus (first | exact Nat.le_refl _ | omega | (simp; done) | (simp; omega) | (simp at *; omega)))) | ((with_reducible refine Below.setCell ?_ ?_ _); rotate_left; (focus (first | exact Nat.le_refl _ | omega | (simp; done) | (simp; omega) | (simp at *; omega))))))⟩
      · have HF : Hid (lsF p lo hi n = (0, 0)) := Lib.hid (lsF_ok HN.out (ff_none (fun j hj => Hq.out j (by omega))))
        go_wp2_with fail
        refine (At_any _ _ _).mono ?_
        rintro e w1 ⟨rfl, hbw1⟩
        obtain ⟨hcw1, hfw1⟩ := bcell hbw1
        have hzw1 := hbw1.size
        try simp at hzw1
        have kw1 : Below w.heap.size w w1 := Below.trans (by repeat (first | (with_reducible assumption) | (with_reducible exact Below.refl _ _) | (with_reducible refine Below.drew ?_) | (with_reducible refine below_drewN ?_ _) | ((with_reducible refine Below.alloc ?_ ?_ _); rotate_left; (focus (first | exact Nat.le_refl _ | omega | (simp; done) | (simp; omega) | (simp at *; omega)))) | ((with_reducible refine Below.setCell ?_ ?_ _); rotate_left; (focus (first | exact Nat.le_refl _ | omega | (simp; done) | (simp; omega) | (simp at *; omega)))))) (hbw1.mono (by (focus (first | exact Nat.le_refl _ | omega | (simp; done) | (simp; omega) | (simp at *; omega)))))
        have kzw1 := kw1.size
        have cb1 : ∀ o, w1.cell? ⟨w.heap.size, o, none⟩ = _ := fun o => (hbw1.cell (p := ⟨w.heap.size, o, none⟩) lb).trans (cb o)
        have fb1 : ∀ o, w1.frozen? ⟨w.heap.size, o, none⟩ = _ := fun o => (hbw1.frozen (p := ⟨w.heap.size, o, none⟩) lb).trans (fb o)
        go_wp2
        refine bodyPost_ret (v := (fv 0 0)) (by simp [results, Try.results71, go_sem, *]) rfl ?_
        exact ⟨by rw [HF.out], (by repeat (first | (with_reducible assumption) | (with_reducible exact Below.refl _ _) | (with_reducible refine Below.drew ?_) | (with_reducible refine below_drewN ?_ _) | ((with_reducible refine Below.alloc ?_ ?_ _); rotate_left; (focus (first | exact Nat.le_refl _ | omega | (simp; done) | (simp; omega) | (simp at *; omega)))) | ((with_reducible refine Below.setCell ?_ ?_ _); rotate_left; (focus (first | exact Nat.le_refl _ | omega | (simp; done) | (simp; omega) | (simp at *; omega))))))⟩

set_option maxHeartbeats 1000000 in
theorem Most_ok (A : Option Addr) (n c : Nat) (p : Nat → Int) (w : World) (hr : RdI w A n p) (hn : n ≤ maxLen) :
    Calls Try.prog 124 #[.slice A n c] w fun e w' => e = .returned (.int .i64 (moF p n)) ∧ w = w' := by
  unfold maxLen at hn
  have Hr := Lib.hid hr
  clear hr
  go_enter Try.func124, Try.ntmps124
  go_wp2
  go_loopg [3, 4] n (fun gk s3 s4 wr => ∃ k : Nat, k ≤ n ∧ gk = n - k ∧ s3 = .int .i64 (moF p k) ∧ s4 = .int .i64 k ∧ w = wr)
  case atStart => exact ⟨0, by omega, rfl, rfl, rfl, rfl⟩
  case round =>
    obtain ⟨k, hk, rfl, rfl, rfl, rfl⟩ := hrel
    by_cases hlt : k < n
    · obtain ⟨b, off, rfl, hc⟩ := Hr.out (by omega)
      have hck := hc k hlt
      have k0 : (0 : Int) ≤ (k : Int) := by omega
      have k1 : (k : Int) < (n : Int) := by omega
      clear hc
      by_cases hm : moF p k < p k
      · have HE : Hid (moF p (k + 1) = p k) := Lib.hid (by simp only [moF]; omega)
        go_wp2
        go_roundg (n - (k + 1))
        case measure => omega
        case rel => exact ⟨k + 1, by omega, rfl, by rw [HE.out], by go_num, rfl⟩
      · have HE : Hid (moF p (k + 1) = moF p k) := Lib.hid (by simp only [moF]; omega)
        go_wp2
        go_roundg (n - (k + 1))
        case measure => omega
        case rel => exact ⟨k + 1, by omega, rfl, by rw [HE.out], by go_num, rfl⟩
    · obtain rfl : k = n := by omega
      go_wp2
      go_ret
      exact ⟨rfl, rfl⟩

/-- An element of a list that is repeated. -/
def elF (p : Nat → Int) (n : Nat) (i : Int) : Int := if n = 0 then 0 else p (i % n).toNat
theorem element_any (A : Option Addr) (n c : Nat) (p : Nat → Int) (i : Int) (w : World) (hr : RdI w A n p) (hi : 0 ≤ i ∧ i ≤ 409600) (hn : n ≤ 700) :
    Calls Try.prog 125 #[.slice A n c, .int .i64 i] w fun e w' => e = .returned (.int .i64 (elF p n i)) ∧ w = w' := by
  by_cases h : n = 0
  · subst h
    clear hr
    go_enter Try.func125, Try.ntmps125
    go_wp2
    go_ret
    exact ⟨rfl, rfl⟩
  · have h1 : (0 : Int) < (n : Int) := by omega
    have h0 : ¬ (n : Int) = 0 := by omega
    obtain ⟨j, hj⟩ : ∃ j : Nat, (j : Int) = i % n := ⟨(i % n).toNat, by have := Int.emod_nonneg i h0; omega⟩
    have HF : Hid (elF p n i = p j) := Lib.hid (by unfold elF; rw [if_neg h, ← hj]; rfl)
    have hjn : j < n := by have := Int.emod_lt_of_pos i h1; omega
    obtain ⟨b, off, rfl, hc⟩ := hr (by omega)
    have hck := hc j hjn
    have u1 : i.tmod n = (j : Int) := by rw [hj]; exact Int.tmod_eq_emod_of_nonneg hi.1
    have j1 : (j : Int) < (n : Int) := by omega
    have j2 : (0 : Int) ≤ (j : Int) := by omega
    have u2 : IntKind.i64.wrap (j : Int) = (j : Int) := IntWalk.i64_in _ (by omega)
    clear hc hj hr
    go_enter Try.func125, Try.ntmps125
    go_wp2
    go_ret
    exact ⟨by rw [HF.out]; rfl, rfl⟩

end Go.Proofs.Ytpdjiokmafoppaa
