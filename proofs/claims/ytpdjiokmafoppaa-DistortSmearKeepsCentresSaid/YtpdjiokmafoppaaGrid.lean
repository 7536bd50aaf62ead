/- Contracts of small functions on numbers, and of the two checks of a page's dimensions and levels: both return the one fault 'gridF'. Condition: the cells read as bytes. -/
import Derived.Test.YtpdjiokmafoppaaBase
namespace Go.Proofs.Ytpdjiokmafoppaa
open Go.RowKit

def inB (n lo hi : Int) : Bool := decide (lo ≤ n) && decide (n ≤ hi)
theorem inB_yes {n lo hi : Int} (h1 : lo ≤ n) (h2 : n ≤ hi) : inB n lo hi = true := by simp [inB, h1, h2]
theorem inB_no {n lo hi : Int} (h : n < lo ∨ hi < n) : inB n lo hi = false := by
  unfold inB; rcases h with h | h
  · rw [decide_eq_false (by omega)]; rfl
  · rw [decide_eq_false (p := n ≤ hi) (by omega), Bool.and_false]
theorem inB_iff {n lo hi : Int} : inB n lo hi = true ↔ lo ≤ n ∧ n ≤ hi := by simp [inB]

set_option maxHeartbeats 400000 in
theorem In_any (n lo hi : Int) (w : World) :
    Calls Try.prog 32 #[.int .i64 n, .int .i64 lo, .int .i64 hi] w fun e w' => e = .returned (.bool (inB n lo hi)) ∧ w = w' := by
  by_cases h : lo ≤ n
  · have HF : Hid (inB n lo hi = decide (n ≤ hi)) := Lib.hid (by simp [inB, h])
    go_enter Try.func32, Try.ntmps32
    go_wp2
    go_ret
    exact ⟨by rw [HF.out]; rfl, rfl⟩
  · have HF : Hid (inB n lo hi = false) := Lib.hid (inB_no (by omega))
    go_enter Try.func32, Try.ntmps32
    go_wp2
    go_ret
    exact ⟨by rw [HF.out]; rfl, rfl⟩

def rowsOf (L : Int) : Int := if L = 2 then 85 else if L = 4 then 53 else 0

set_option maxHeartbeats 400000 in
theorem RowsOf_any (L : Int) (w : World) : Calls Try.prog 148 #[.int .i64 L] w fun e w' => e = .returned (.int .i64 (rowsOf L)) ∧ w = w' := by
  by_cases h : L = 2
  · subst h
    go_enter Try.func148, Try.ntmps148
    go_wp2
    go_ret
    exact ⟨rfl, rfl⟩
  · by_cases h4 : L = 4
    · subst h4
      go_enter Try.func148, Try.ntmps148
      go_wp2
      go_ret
      exact ⟨rfl, rfl⟩
    · have HF : Hid (rowsOf L = 0) := Lib.hid (by simp [rowsOf, h, h4])
      have g2 : (L == 2) = false := by simp [h]
      have g4 : (L == 4) = false := by simp [h4]
      go_enter Try.func148, Try.ntmps148
      go_wp2
      go_ret
      exact ⟨by rw [HF.out]; rfl, rfl⟩

set_option maxHeartbeats 400000 in
theorem rows_any (L : Int) (hL : L = 2 ∨ L = 4) (w : World) : Calls Try.prog 153 #[.int .i64 L] w fun e w' => e = .returned (.int .i64 (rowsOf L)) ∧ w = w' := by
  rcases hL with rfl | rfl
  · go_enter Try.func153, Try.ntmps153
    go_wp2
    go_ret
    exact ⟨rfl, rfl⟩
  · go_enter Try.func153, Try.ntmps153
    go_wp2
    go_ret
    exact ⟨rfl, rfl⟩

def lvB (L : Int) : Bool := decide (L = 2) || decide (L = 4)
set_option maxHeartbeats 400000 in
theorem validLevels_any (L : Int) (w : World) : Calls Try.prog 151 #[.int .i64 L] w fun e w' => e = .returned (.bool (lvB L)) ∧ w = w' := by
  by_cases h : L = 2
  · subst h
    go_enter Try.func151, Try.ntmps151
    go_wp2
    go_ret
    exact ⟨rfl, rfl⟩
  · by_cases h4 : L = 4
    · subst h4
      go_enter Try.func151, Try.ntmps151
      go_wp2
      go_ret
      exact ⟨rfl, rfl⟩
    · have HF : Hid (lvB L = false) := Lib.hid (by simp [lvB, h, h4])
      have g2 : (L == 2) = false := by simp [h]
      have g4 : (L == 4) = false := by simp [h4]
      go_enter Try.func151, Try.ntmps151
      go_wp2
      go_ret
      exact ⟨by rw [HF.out]; rfl, rfl⟩

/-- The number of the first cell whose level is too high, or -1. -/
def hiC (p : Nat → Int) (L : Int) (n : Nat) : Int := ff (fun i => decide (L ≤ p i)) n

set_option maxHeartbeats 400000 in
theorem IndexFunc_high (A : Option Addr) (n c : Nat) (p : Nat → Int) (L : Int) (g : Nat) (w : World) (hn : n ≤ maxLen) (hp : Byt p) (hr : RdB w A n p) (hL : w.cell? ⟨g, 0, none⟩ = some (.int .i64 L)) :
    Calls Try.prog 173 #[.slice A n c, .func (.func 174) #[] #[.pointer (some ⟨g, 0, none⟩)]] w fun e w' =>
      e = .returned (.int .i64 (hiC p L n)) ∧ w = w' := by
  unfold maxLen at hn
  have Hr := Lib.hid hr
  clear hr
  go_enter Try.func173, Try.ntmps173
  go_wp2
  go_loop [8] (fun i => ∃ k : Nat, k ≤ n ∧ i = .int .i64 k ∧ Hid (∀ j, j < k → decide (L ≤ p j) = false)) (fun i => n - (intOf i).toNat)
  case atStart => exact ⟨0, Nat.zero_le _, rfl, Lib.hid (fun j hj => absurd hj (Nat.not_lt_zero _))⟩
  case round =>
    obtain ⟨k, hk, rfl, Hq⟩ := hrel
    by_cases hlt : k < n
    · obtain ⟨b, off, rfl, hc⟩ := Hr.out (by omega)
      have hck := hc k hlt
      have hpk := hp k
      clear hc
      by_cases hh : L ≤ p k
      · have HF : Hid (hiC p L n = k) := Lib.hid (ff_hit hlt (by simpa using hh) Hq.out)
        go_wp2
        go_ret
        exact ⟨by rw [HF.out]; rfl, rfl⟩
      · have HN := Lib.hid (none_step (q := fun j => decide (L ≤ p j)) Hq.out (by simpa using hh))
        go_wp2
        go_round
        case rel => exact ⟨k + 1, by omega, by go_num, HN⟩
        case measure => simp [intOf]; omega
    · have HF : Hid (hiC p L n = -1) := Lib.hid (ff_none (fun j hj => Hq.out j (by omega)))
      go_wp2
      go_ret
      exact ⟨by rw [HF.out]; rfl, rfl⟩

set_option maxHeartbeats 400000 in
theorem tooHigh_any (A : Option Addr) (n c : Nat) (p : Nat → Int) (L : Int) (w : World) (hn : n ≤ maxLen) (hp : Byt p) (hr : RdB w A n p) :
    Calls Try.prog 154 #[.slice A n c, .int .i64 L] w fun e w' => e = .returned (.int .i64 (hiC p L n)) ∧ Below w.heap.size w w' := by
  go_enter Try.func154, Try.ntmps154
  go_wp2_with fail
  refine (IndexFunc_high A n c p L _ _ hn hp (hr.alloc _) (by simp)).mono ?_
  rintro e w' ⟨rfl, rfl⟩
  go_wp2
  go_ret
  exact ⟨rfl, (Below.refl _ _).alloc (Nat.le_refl _) _⟩

def cellsF (p : Nat → Int) (L : Int) (n : Nat) : Int × Int := if 0 ≤ hiC p L n then (4, hiC p L n) else (0, 0)

set_option maxHeartbeats 400000 in
theorem CellsFault_any (A : Option Addr) (n c : Nat) (p : Nat → Int) (L : Int) (w : World) (hn : n ≤ maxLen) (hp : Byt p) (hr : RdB w A n p) :
    Calls Try.prog 149 #[.slice A n c, .int .i64 L] w fun e w' => e = .returned (fv (cellsF p L n).1 (cellsF p L n).2) ∧ Below w.heap.size w w' := by
  unfold maxLen at hn
  have Hr := Lib.hid hr
  clear hr
  go_enter Try.func149, Try.ntmps149
  go_wp2
  go_loop [5] (fun i => ∃ k : Nat, k ≤ n ∧ i = .int .i64 k ∧ Hid (∀ j, j < k → decide (L ≤ p j) = false)) (fun i => n - (intOf i).toNat)
  case atStart => exact ⟨0, Nat.zero_le _, rfl, Lib.hid (fun j hj => absurd hj (Nat.not_lt_zero _))⟩
  case round =>
    obtain ⟨k, hk, rfl, Hq⟩ := hrel
    by_cases hlt : k < n
    · have Hr1 := Hr.out.alloc (.cells #[.int .i64 0, .int .i64 0] 28)
      obtain ⟨b, off, rfl, hc⟩ := Hr1 (by omega)
      have hck := hc k hlt
      have hpk := hp k
      clear hc Hr1
      by_cases hh : L ≤ p k
      · have HF : Hid (cellsF p L n = (4, (k : Int))) := Lib.hid (by
          have := ff_hit hlt (q := fun j => decide (L ≤ p j)) (by simpa using hh) Hq.out
          unfold cellsF hiC; rw [this, if_pos (by omega)])
        go_wp2_with fail
        refine (At_any _ _ _).mono ?_
        rintro e w1 ⟨rfl, hbw1⟩
        obtain ⟨hcw1, hfw1⟩ := bcell hbw1
        have hzw1 := hbw1.size
        try simp at hzw1
        have kw1 : Below w.heap.size w w1 := Below.trans (by repeat (first | (with_reducible assumption) | (with_reducible exact Below.refl _ _) | (with_reducible refine Below.drew ?_) | (with_reducible refine below_drewN ?_ _) | ((with_reducible refine Below.alloc ?_ ?_ _); rotate_left; (focus (first | exact Nat.le_refl _ | omega | (simp; done) | (simp; omega) | (simp at *; omega)))) | ((with_reducible refine Below.setCell ?_ ?_ _); rotate_left; (focus (first | exact Nat.le_refl _ | omega | (simp; done) | (simp; omega) | (simp at *; omega)))))) (hbw1.mono (by (focus (first | exact Nat.le_refl _ | omega | (simp; done) | (simp; omega) | (simp at *; omega)))))
        have kzw1 := kw1.size
        go_wp2
        refine bodyPost_ret (v := (fv 4 k)) (by simp [results, Try.results149, go_sem, *]) rfl ?_
        exact ⟨by rw [HF.out], (by repeat (first | (with_reducible assumption) | (with_reducible exact Below.refl _ _) | (with_reducible refine Below.drew ?_) | (with_reducible refine below_drewN ?_ _) | ((with_reducible refine Below.alloc ?_ ?_ _); rotate_left; (focus (first | exact Nat.le_refl _ | omega | (simp; done) | (simp; omega) | (simp at *; omega)))) | ((with_reducible refine Below.setCell ?_ ?_ _); rotate_left; (focus (first | exact Nat.le_refl _ | omega | (simp; done) | (simp; omega) | (simp at *; omega))))))⟩
      · have HN := Lib.hid (none_step (q := fun j => decide (L ≤ p j)) Hq.out (by simpa using hh))
        go_wp2
        go_round
        case rel => exact ⟨k + 1, by omega, by go_num, HN⟩
        case measure => simp [intOf]; omega
    · have HF : Hid (cellsF p L n = (0, 0)) := Lib.hid (by
        have := ff_none (n := n) (q := fun j => decide (L ≤ p j)) (fun j hj => Hq.out j (by omega))
        unfold cellsF hiC; rw [this]; rfl)
      go_wp2_with fail
      refine (At_any _ _ _).mono ?_
      rintro e w1 ⟨rfl, hbw1⟩
      obtain ⟨hcw1, hfw1⟩ := bcell hbw1
      have hzw1 := hbw1.size
      try simp at hzw1
      have kw1 : Below w.heap.size w w1 := Below.trans (by repeat (first | (with_reducible assumption) | (with_reducible exact Below.refl _ _) | (with_reducible refine Below.drew ?_) | (with_reducible refine below_drewN ?_ _) | ((with_reducible refine Below.alloc ?_ ?_ _); rotate_left; (focus (first | exact Nat.le_refl _ | omega | (simp; done) | (simp; omega) | (simp at *; omega)))) | ((with_reducible refine Below.setCell ?_ ?_ _); rotate_left; (focus (first | exact Nat.le_refl _ | omega | (simp; done) | (simp; omega) | (simp at *; omega)))))) (hbw1.mono (by (focus (first | exact Nat.le_refl _ | omega | (simp; done) | (simp; omega) | (simp at *; omega)))))
      have kzw1 := kw1.size
      go_wp2
      refine bodyPost_ret (v := (fv 0 0)) (by simp [results, Try.results149, go_sem, *]) rfl ?_
      exact ⟨by rw [HF.out], (by repeat (first | (with_reducible assumption) | (with_reducible exact Below.refl _ _) | (with_reducible refine Below.drew ?_) | (with_reducible refine below_drewN ?_ _) | ((with_reducible refine Below.alloc ?_ ?_ _); rotate_left; (focus (first | exact Nat.le_refl _ | omega | (simp; done) | (simp; omega) | (simp at *; omega)))) | ((with_reducible refine Below.setCell ?_ ?_ _); rotate_left; (focus (first | exact Nat.le_refl _ | omega | (simp; done) | (simp; omega) | (simp at *; omega))))))⟩

/-- The fault of a page's dimensions and levels. -/
def gridF (L R C : Int) (n : Nat) (p : Nat → Int) : Int × Int :=
  if L ≠ 2 ∧ L ≠ 4 then (4, -1) else if R ≠ rowsOf L then (6, -2) else if C ≠ 58 then (6, -3) else if (n : Int) ≠ R * 58 then (9, -4) else cellsF p L n
/-- The value of a page. -/
abbrev gv (L R C : Int) (A : Option Addr) (n c : Nat) : Value := .agg #[.int .i64 L, .int .i64 R, .int .i64 C, .slice A n c]

theorem rowsOf_lv {L : Int} (h : L = 2 ∨ L = 4) : 53 ≤ rowsOf L ∧ rowsOf L ≤ 85 ∧ (rowsOf L == 0) = false := by
  rcases h with rfl | rfl <;> decide
theorem gridF_1 {L R C : Int} {n : Nat} {p : Nat → Int} (h : L ≠ 2 ∧ L ≠ 4) : gridF L R C n p = (4, -1) := by unfold gridF; rw [if_pos h]
theorem gridF_2 {L R C : Int} {n : Nat} {p : Nat → Int} (h : L = 2 ∨ L = 4) (h2 : R ≠ rowsOf L) : gridF L R C n p = (6, -2) := by
  unfold gridF; rw [if_neg (by omega), if_pos h2]
theorem gridF_3 {L R C : Int} {n : Nat} {p : Nat → Int} (h : L = 2 ∨ L = 4) (h2 : R = rowsOf L) (h3 : C ≠ 58) : gridF L R C n p = (6, -3) := by
  unfold gridF; rw [if_neg (by omega), if_neg (by simpa using h2), if_pos h3]
theorem gridF_4 {L R C : Int} {n : Nat} {p : Nat → Int} (h : L = 2 ∨ L = 4) (h2 : R = rowsOf L) (h3 : C = 58) (h4 : (n : Int) ≠ R * 58) : gridF L R C n p = (9, -4) := by
  unfold gridF; rw [if_neg (by omega), if_neg (by simpa using h2), if_neg (by simpa using h3), if_pos h4]
theorem gridF_5 {L R C : Int} {n : Nat} {p : Nat → Int} (h : L = 2 ∨ L = 4) (h2 : R = rowsOf L) (h3 : C = 58) (h4 : (n : Int) = R * 58) : gridF L R C n p = cellsF p L n := by
  unfold gridF; rw [if_neg (by omega), if_neg (by simpa using h2), if_neg (by simpa using h3), if_neg (by simpa using h4)]

end Go.Proofs.Ytpdjiokmafoppaa
