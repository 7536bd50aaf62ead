/- Contracts of slices.Repeat of one byte, blank, copyOf. Conditions: at most 2^30 pixels. -/
import Derived.Test.YtpdjiokmafoppaaMake
namespace Go.Proofs.Ytpdjiokmafoppaa
open Go.RowKit

theorem rep_val {k m : Nat} {v u : Value} (hm : m ≤ k) (i : Nat) : (if k ≤ i ∧ i < k + m then upTo k (fun _ => v) (fun _ => u) (i - k) else upTo k (fun _ => v) (fun _ => u) i) = upTo (k + m) (fun _ => v) (fun _ => u) i := by
  unfold upTo
  by_cases h : i < k
  · rw [if_neg (by omega), if_pos h, if_pos (by omega)]
  · by_cases h2 : i < k + m
    · rw [if_pos ⟨by omega, h2⟩, if_pos (by omega), if_pos h2]
    · rw [if_neg (by omega), if_neg h, if_neg h2]

set_option maxHeartbeats 1000000 in
set_option maxRecDepth 100000 in
theorem Repeat_one (b : Nat) (v : Int) (N : Nat) (hN : N ≤ 1073741824) (w : World) (hc : w.cell? ⟨b, 0, none⟩ = some (.int .u8 v)) :
    Calls Try.prog 96 #[.slice (some ⟨b, 0, none⟩) 1 1, .int .i64 N] w fun e w' => e = .returned (.slice (some ⟨w.heap.size, 0, none⟩) N N) ∧ w'.rowIs w.heap.size 5 N (fun _ => .int .u8 v) ∧ Below w.heap.size w w' := by
  have hmk := run_make_row' (P := Try.prog) 22 5 (.int .u8 0) 1 Try.underlying22 Try.info5 rfl .i64 .i64 N (by omega) (by omega)
  have hr0 : Rd (w.alloc (.cells (madeCells #[.int .u8 0] N) 5)) (some ⟨b, 0, none⟩) 1 (fun _ => .int .u8 v) := fun _ => ⟨b, 0, rfl, fun i hi => by
    obtain rfl : i = 0 := by omega
    rw [World.cell?_alloc_lt w _ _ (World.block_lt_of_cell? _ _ hc)]; exact hc⟩
  obtain ⟨m0, hm0⟩ : ∃ m0, m0 = min 1 N := ⟨_, rfl⟩
  obtain ⟨w1, hcp, hrow, hon⟩ := copy_row (off := 0) (dLen := N) (dCap := N) (c := 1) (dT := 22) (sT := 22) (elem := 5) (ty := 3) Try.underlying22 Try.size5 (made_at w (.int .u8 0) N 5 rfl) hr0 (m := m0) hm0 (by omega) (fun _ _ => rfl)
  have H0 := Lib.hid (And.intro hrow (hon.below ((Below.refl w.heap.size w).alloc (Nat.le_refl _) _) (Nat.le_refl _)))
  have m1 : m0 ≤ N := by omega
  have m2 : 0 < N → 1 ≤ m0 := by omega
  clear hrow hon hr0 hc hm0
  go_enter Try.func96, Try.ntmps96
  go_wp2_with fail
  refine (Mul_one _ (by omega) (by omega) _).mono ?_
  rintro e w' ⟨rfl, rfl⟩
  go_wp2
  clear hmk hcp
  go_loopg [8] (N - m0) (fun g i wr => ∃ k : Nat, k ≤ N ∧ g = N - k ∧ (0 < N → 1 ≤ k) ∧ i = .int .i64 k ∧ wr.rowIs w.heap.size 5 N (upTo k (fun _ => .int .u8 v) (fun _ => .int .u8 0)) ∧ Below w.heap.size w wr)
  case atStart => exact ⟨m0, m1, rfl, m2, rfl, H0.out.1.congr (fun i _ => by simp [upTo]), H0.out.2⟩
  case round =>
    obtain ⟨k, hk, rfl, hk1, rfl, hrow, hbel⟩ := hrel
    clear H0 m1 m2
    by_cases hlt : k < N
    · have k1 : 1 ≤ k := hk1 (by omega)
      clear hk1
      obtain ⟨m, hm⟩ : ∃ m, m = min k (N - k) := ⟨_, rfl⟩
      have hr1 : Rd wr.drew (some ⟨w.heap.size, 0, none⟩) k (upTo k (fun _ => .int .u8 v) (fun _ => .int .u8 0)) := fun _ => ⟨_, 0, rfl, fun i hi => by rw [Nat.zero_add]; exact hrow.drew.cell (by omega)⟩
      obtain ⟨w1, hcp, hrow1, hon⟩ := copy_row (off := k) (dLen := N - k) (dCap := N - k) (c := N) (dT := 22) (sT := 22) (elem := 5) (ty := 3) Try.underlying22 Try.size5 hrow.drew hr1 (m := m) hm (by omega) (fun i hi => by simp [upTo]; split <;> rfl)
      have m1 : 1 ≤ m ∧ k + m ≤ N ∧ m ≤ k := by omega
      have H1 := Lib.hid (And.intro hrow1 (hon.below hbel.drew (Nat.le_refl _)))
      clear hr1 hrow1 hon hm
      go_wp2
      go_region
      go_wp2
      go_roundg (N - (k + m))
      case measure => omega
      case rel => exact ⟨k + m, by omega, rfl, by omega, by go_num, H1.out.1.congr (fun i _ => rep_val m1.2.2 i), H1.out.2⟩
    · obtain rfl : k = N := by omega
      go_wp2
      go_ret
      exact ⟨rfl, hrow.congr upTo_all, hbel⟩

theorem Repeat_any (b : Nat) (v M : Int) (N : Nat) (hM : (N : Int) = M) (hN : N ≤ 1073741824) (w : World) (hc : w.cell? ⟨b, 0, none⟩ = some (.int .u8 v)) :
    Calls Try.prog 96 #[.slice (some ⟨b, 0, none⟩) 1 1, .int .i64 M] w fun e w' => e = .returned (.slice (some ⟨w.heap.size, 0, none⟩) N N) ∧ w'.rowIs w.heap.size 5 N (fun _ => .int .u8 v) ∧ Below w.heap.size w w' := by
  subst hM; exact Repeat_one b v N hN w hc

set_option maxHeartbeats 1000000 in
set_option maxRecDepth 100000 in
theorem blank_any (W H : Int) (N : Nat) (hN : (N : Int) = W * H) (hb : N ≤ 1073741824) (w : World) :
    Calls Try.prog 122 #[.int .i64 W, .int .i64 H] w fun e w' => e = .returned (iv W H (some ⟨w.heap.size + 2, 0, none⟩) N N) ∧ w'.rowIs (w.heap.size + 2) 5 N (fun _ => .int .u8 255) ∧ Below w.heap.size w w' := by
  have b1 : 0 ≤ W * H := by omega
  have b2 : W * H ≤ 1073741824 := by omega
  have HN := Lib.hid hN
  clear hN
  go_enter Try.func122, Try.ntmps122
  go_wp2_with fail
  refine (Repeat_any _ 255 _ N HN.out hb _ (by simp)).mono ?_
  rintro e w1 ⟨rfl, hrow, hbw1⟩
  have Hrow := Lib.hid hrow
  clear hrow
  obtain ⟨hcw1, hfw1⟩ := bcell hbw1
  have hzw1 := hbw1.size
  try simp at hzw1
  have kw1 : Below w.heap.size w w1 := Below.trans (by repeat (first | (with_reducible assumption) | (with_reducible exact Below.refl _ _) | (with_reducible refine Below.drew ?_) | (with_reducible refine below_drewN ?_ _) | ((with_reducible refine Below.alloc ?_ ?_ _); rotate_left; (focus (first | exact Nat.le_refl _ | omega | (simp; done) | (simp; omega) | (simp at *; omega)))) | ((with_reducible refine Below.setCell ?_ ?_ _); rotate_left; (focus (first | exact Nat.le_refl _ | omega | (simp; done) | (simp; omega) | (simp at *; omega)))))) (hbw1.mono (by (focus (first | exact Nat.le_refl _ | omega | (simp; done) | (simp; omega) | (simp at *; omega)))))
  have kzw1 := kw1.size
  go_wp2
  refine bodyPost_ret (v := (iv W H (some ⟨w.heap.size + 1 + 1, 0, none⟩) N N)) (by simp [results, Try.results122, go_sem, *]) rfl ?_
  exact ⟨rfl, ((((by simpa using Hrow.out : w1.rowIs (w.heap.size + 2) 5 N _).setOther (by simp) _).setOther (by simp) _).setOther (by simp) _), (by repeat (first | (with_reducible assumption) | (with_reducible exact Below.refl _ _) | (with_reducible refine Below.drew ?_) | (with_reducible refine below_drewN ?_ _) | ((with_reducible refine Below.alloc ?_ ?_ _); rotate_left; (focus (first | exact Nat.le_refl _ | omega | (simp; done) | (simp; omega) | (simp at *; omega)))) | ((with_reducible refine Below.setCell ?_ ?_ _); rotate_left; (focus (first | exact Nat.le_refl _ | omega | (simp; done) | (simp; omega) | (simp at *; omega))))))⟩

set_option maxHeartbeats 1000000 in
theorem copyOf_any (A : Option Addr) (n c : Nat) (W H : Int) (p : Nat → Int) (hn : n ≤ 1073741824) (w : World) (hr : RdB w A n p) :
    Calls Try.prog 113 #[iv W H A n c] w fun e w' => e = .returned (iv W H (some ⟨w.heap.size + 2, 0, none⟩) n n) ∧ w'.rowIs (w.heap.size + 2) 5 n (fun i => .int .u8 (p i)) ∧ Below w.heap.size w w' := by
  have hmk := run_make_row' (P := Try.prog) 22 5 (.int .u8 0) 1 Try.underlying22 Try.info5 rfl .i64 .i64 n (by omega) (by omega)
  have hr0 := ((hr.alloc (.cells #[.int .i64 W, .int .i64 H, .slice A n c] 26)).alloc (.cells #[.int .i64 0, .int .i64 0, .slice none 0 0] 26)).alloc (.cells (madeCells #[.int .u8 0] n) 5)
  obtain ⟨w1, hcp, hrow, hon⟩ := copy_row (off := 0) (dLen := n) (dCap := n) (c := c) (dT := 22) (sT := 22) (elem := 5) (ty := 3) Try.underlying22 Try.size5 (made_at _ (.int .u8 0) n 5 (g := w.heap.size + 2) (by simp)) hr0 (m := n) (by omega) (by omega) (fun _ _ => rfl)
  have k1 : Below w.heap.size w w1 := hon.below (by repeat (first | (with_reducible assumption) | (with_reducible exact Below.refl _ _) | (with_reducible refine Below.drew ?_) | (with_reducible refine below_drewN ?_ _) | ((with_reducible refine Below.alloc ?_ ?_ _); rotate_left; (focus (first | exact Nat.le_refl _ | omega | (simp; done) | (simp; omega) | (simp at *; omega)))) | ((with_reducible refine Below.setCell ?_ ?_ _); rotate_left; (focus (first | exact Nat.le_refl _ | omega | (simp; done) | (simp; omega) | (simp at *; omega)))))) (by omega)
  have H0 := Lib.hid (hrow.congr (g := fun i => .int .u8 (p i)) (fun i hi => by rw [if_pos ⟨by omega, by omega⟩]; rfl))
  have B0 := hon.blk (((Blk.new w 26 #[.int .i64 W, .int .i64 H, .slice A n c]).alloc _).alloc _) (by omega)
  have B1 := hon.blk ((Blk.new_at (w.alloc (.cells #[.int .i64 W, .int .i64 H, .slice A n c] 26)) 26 #[.int .i64 0, .int .i64 0, .slice none 0 0] (g := w.heap.size + 1) (by simp)).alloc _) (by omega)
  have c0 := B0.cell
  have c1 := B1.cell
  have f1 := B1.frozen
  clear hrow hon hr0 B0 B1
  go_enter Try.func113, Try.ntmps113
  go_wp2
  refine bodyPost_ret (v := (iv W H (some ⟨w.heap.size + 2, 0, none⟩) n n)) (by simp [results, Try.results113, go_sem, *]) rfl ?_
  exact ⟨rfl, (((H0.out.setOther (by simp) _).setOther (by simp) _).setOther (by simp) _), (by repeat (first | (with_reducible assumption) | (with_reducible exact Below.refl _ _) | (with_reducible refine Below.drew ?_) | (with_reducible refine below_drewN ?_ _) | ((with_reducible refine Below.alloc ?_ ?_ _); rotate_left; (focus (first | exact Nat.le_refl _ | omega | (simp; done) | (simp; omega) | (simp at *; omega)))) | ((with_reducible refine Below.setCell ?_ ?_ _); rotate_left; (focus (first | exact Nat.le_refl _ | omega | (simp; done) | (simp; omega) | (simp at *; omega))))))⟩

end Go.Proofs.Ytpdjiokmafoppaa
