/- ref6.Noisy. Conditions: the image is valid; the pixels and the numbers read; the numbers are in range. -/
import Derived.Test.YtpdjiokmafoppaaNoise
namespace Go.Proofs.Ytpdjiokmafoppaa
open Go.RowKit

set_option maxHeartbeats 4000000 in
set_option maxRecDepth 100000 in
theorem Noisy_ok (A B : Option Addr) (n c m d : Nat) (W H : Int) (p q : Nat → Int) (w : World) (hi : ImgOk W H n) (hp : Byt p) (hr : RdB w A n p) (hq : RdI w B m q) (hm : m ≤ 700) (hb : ∀ i, i < m → -40 ≤ q i ∧ q i ≤ 40) :
    Calls Try.prog 72 #[iv W H A n c, .slice B m d] w fun e w' => ∃ g, e = .returned (iv W H (some ⟨g, 0, none⟩) n n) ∧ w.heap.size ≤ g ∧ w'.rowIs g 5 n (fun k => .int .u8 (noF p q m k)) ∧ Below w.heap.size w w' := by
  have HR := rd_later hr
  have HQ := rd_later hq
  have HI := Lib.hid hi
  have HPp := Lib.hid hp
  have hnb : n ≤ 409600 := by have := mul_bd ⟨hi.w1, hi.w2⟩ ⟨hi.h1, hi.h2⟩; have := hi.len; omega
  have HM := Lib.hid hm
  have HEB : Hid (∀ i : Int, 0 ≤ i → -40 ≤ elF q m i ∧ elF q m i ≤ 40) := Lib.hid fun i hi => by
    unfold elF
    split
    · omega
    · have a := Int.emod_nonneg i (show (m : Int) ≠ 0 by omega)
      have b := Int.emod_lt_of_pos i (show (0 : Int) < m by omega)
      exact hb _ (by omega)
  clear hr hq hi hp hb hm
  go_enter Try.func72, Try.ntmps72
  go_wp2_with fail
  refine (White_any W H n HI.out.len (by omega) _).mono ?_
  rintro e w1 ⟨rfl, hrow, hbw1⟩
  have Hrow := Lib.hid hrow
  have hgl := hrow.lt
  clear hrow
  have hzw1 := hbw1.size
  try simp at hzw1
  have kw1 : Below w.heap.size w w1 := Below.trans (by repeat (first | (with_reducible assumption) | (with_reducible exact Below.refl _ _) | (with_reducible refine Below.drew ?_) | (with_reducible refine below_drewN ?_ _) | ((with_reducible refine Below.alloc ?_ ?_ _); rotate_left; (focus (first | exact Nat.le_refl _ | omega | (simp; done) | (simp; omega) | (simp at *; omega)))) | ((with_reducible refine Below.setCell ?_ ?_ _); rotate_left; (focus (first | exact Nat.le_refl _ | omega | (simp; done) | (simp; omega) | (simp at *; omega)))))) (hbw1.mono (by (focus (first | exact Nat.le_refl _ | omega | (simp; done) | (simp; omega) | (simp at *; omega)))))
  have kzw1 := kw1.size
  have Bin : Blk w1 (w.heap.size) 26 #[.int .i64 W, .int .i64 H, .slice A n c] := Blk.below (by repeat (first | (with_reducible assumption) | (with_reducible exact Blk.new _ _ _) | ((with_reducible refine Blk.new_at _ _ _ ?_); (focus (first | (simp; done) | omega))) | (with_reducible refine Blk.drew ?_) | (with_reducible refine Blk.drewN ?_ _) | (with_reducible refine Blk.alloc ?_ _) | ((with_reducible refine Blk.far ?_ ?_ _); rotate_left; (focus (first | (simp; done) | (simp; omega) | omega))))) hbw1 (by (focus (first | omega | (simp; done) | (simp; omega) | (simp at *; omega))))
  try clear ci fi
  try clear Bi
  have Bi := Bin
  clear Bin
  have ci := Bi.cell
  have fi := Bi.frozen
  have liw1 := Bi.lt
  have Ban : Blk w1 (w.heap.size + 1) 26 #[.int .i64 0, .int .i64 0, .slice none 0 0] := Blk.below (by repeat (first | (with_reducible assumption) | (with_reducible exact Blk.new _ _ _) | ((with_reducible refine Blk.new_at _ _ _ ?_); (focus (first | (simp; done) | omega))) | (with_reducible refine Blk.drew ?_) | (with_reducible refine Blk.drewN ?_ _) | (with_reducible refine Blk.alloc ?_ _) | ((with_reducible refine Blk.far ?_ ?_ _); rotate_left; (focus (first | (simp; done) | (simp; omega) | omega))))) hbw1 (by (focus (first | omega | (simp; done) | (simp; omega) | (simp at *; omega))))
  try clear ca fa
  try clear Ba
  have Ba := Ban
  clear Ban
  have ca := Ba.cell
  have fa := Ba.frozen
  have law1 := Ba.lt
  clear ci fi ca fa
  have H0 : LI w (w.heap.size + 1 + 1 + 1) n (upTo 0 (fun k => .int .u8 (noF p q m k)) (fun _ => .int .u8 255)) [(w.heap.size, 26, #[.int .i64 W, .int .i64 H, .slice A n c]), (w.heap.size + 1, 26, #[.int .i64 0, .int .i64 0, .slice none 0 0]), (w1.heap.size, 26, #[.int .i64 W, .int .i64 H, .slice (some ⟨w.heap.size + 1 + 1 + 1, 0, none⟩) n n])] (w1.alloc (.cells #[.int .i64 W, .int .i64 H, .slice (some ⟨w.heap.size + 1 + 1 + 1, 0, none⟩) n n] 26)) := by
    simp at hgl
    refine ⟨?_, ?_, by omega, (by repeat (first | (with_reducible assumption) | (with_reducible exact Below.refl _ _) | (with_reducible refine Below.drew ?_) | (with_reducible refine below_drewN ?_ _) | ((with_reducible refine Below.alloc ?_ ?_ _); rotate_left; (focus (first | exact Nat.le_refl _ | omega | (simp; done) | (simp; omega) | (simp at *; omega)))) | ((with_reducible refine Below.setCell ?_ ?_ _); rotate_left; (focus (first | exact Nat.le_refl _ | omega | (simp; done) | (simp; omega) | (simp at *; omega))))))⟩
    · rw [upTo_zero]; exact (by simpa using Hrow.out : w1.rowIs (w.heap.size + 1 + 1 + 1) 5 n _).alloc _
    · intro x hx
      simp only [List.mem_cons, List.not_mem_nil, or_false] at hx
      rcases hx with rfl | rfl | rfl
      · exact ⟨Bi.alloc _, (by (focus (first | (simp; done) | (simp; omega) | omega)))⟩
      · exact ⟨Ba.alloc _, (by (focus (first | (simp; done) | (simp; omega) | omega)))⟩
      · exact ⟨Blk.new _ _ _, (by (focus (first | (simp; done) | (simp; omega) | omega)))⟩
  clear Bi Ba Hrow hbw1
  go_wp2
  go_loopg [6] n (fun gk s6 wr => ∃ k : Nat, k ≤ n ∧ gk = n - k ∧ s6 = .int .i64 k ∧ LI w (w.heap.size + 1 + 1 + 1) n (upTo k (fun k => .int .u8 (noF p q m k)) (fun _ => .int .u8 255)) [(w.heap.size, 26, #[.int .i64 W, .int .i64 H, .slice A n c]), (w.heap.size + 1, 26, #[.int .i64 0, .int .i64 0, .slice none 0 0]), (w1.heap.size, 26, #[.int .i64 W, .int .i64 H, .slice (some ⟨w.heap.size + 1 + 1 + 1, 0, none⟩) n n])] wr)
  case atStart => exact ⟨0, by omega, rfl, rfl, H0⟩
  case round =>
    obtain ⟨k, hk, rfl, rfl, hI⟩ := hrel
    clear H0
    have HS := Lib.hid hI
    have Bo := hI.b (b := w1.heap.size) (t := 26) (cs := #[.int .i64 W, .int .i64 H, .slice (some ⟨w.heap.size + 1 + 1 + 1, 0, none⟩) n n]) (by simp)
    have co := Bo.cell
    by_cases hlt : k < n
    · have Bi := hI.b (b := w.heap.size) (t := 26) (cs := #[.int .i64 W, .int .i64 H, .slice A n c]) (by simp)
      have ci := Bi.cell
      have st := hI.row.cell hlt
      have fz := hI.row.frozen k
      obtain ⟨b, off, rfl, hcl⟩ := HR.out _ hI.bel (by omega)
      have hck := hcl k hlt
      have HQr := Lib.hid (HQ.out _ hI.bel)
      have HEL := Lib.hid (fun w' (h : RdI w' B m q) => element_any B m d q k w' h ⟨by omega, by omega⟩ HM.out)
      have hpk := HPp.out k
      have he := HEB.out k (by omega)
      have HN : Hid (noF p q m k = min (max (p k + elF q m k) 0) 255) := Lib.hid rfl
      generalize elF q m k = E at *
      have k0 : (0 : Int) ≤ (k : Int) := by omega
      have k1 : (k : Int) < (n : Int) := by omega
      have u3 : IntKind.i64.wrap (p k) = p k := IntWalk.i64_in _ (by omega)
      have u4 : IntKind.i64.wrap (p k + E) = p k + E := IntWalk.i64_in _ (by omega)
      clear hcl hI Bi Bo
      by_cases h0 : p k + E < 0
      · have HV : Hid (noF p q m k = 0) := Lib.hid (by rw [HN.out]; omega)
        have u5 : IntKind.u8.wrap (0) = 0 := IntWalk.u8_in _ (by omega)
        go_wp2_with fail
        go_quiet ((go_at_call 125; exact quiet_left (HEL.out _ HQr.out)))
        go_wp2
        go_roundg (n - (k + 1))
        case measure => omega
        case rel => exact ⟨k + 1, by omega, rfl, by go_num, HS.out.step (by repeat (first | (with_reducible assumption) | (with_reducible exact Below.refl _ _) | (with_reducible refine Below.drew ?_) | (with_reducible refine below_drewN ?_ _) | ((with_reducible refine Below.alloc ?_ ?_ _); rotate_left; (focus (first | exact Nat.le_refl _ | omega | (simp; done) | (simp; omega) | (simp at *; omega)))) | ((with_reducible refine Below.setCell ?_ ?_ _); rotate_left; (focus (first | exact Nat.le_refl _ | omega | (simp; done) | (simp; omega) | (simp at *; omega)))))) (by rw [HV.out])⟩
      by_cases h1 : 255 < p k + E
      · have HV : Hid (noF p q m k = 255) := Lib.hid (by rw [HN.out]; omega)
        have u5 : IntKind.u8.wrap (255) = 255 := IntWalk.u8_in _ (by omega)
        go_wp2_with fail
        go_quiet ((go_at_call 125; exact quiet_left (HEL.out _ HQr.out)))
        go_wp2
        go_roundg (n - (k + 1))
        case measure => omega
        case rel => exact ⟨k + 1, by omega, rfl, by go_num, HS.out.step (by repeat (first | (with_reducible assumption) | (with_reducible exact Below.refl _ _) | (with_reducible refine Below.drew ?_) | (with_reducible refine below_drewN ?_ _) | ((with_reducible refine Below.alloc ?_ ?_ _); rotate_left; (focus (first | exact Nat.le_refl _ | omega | (simp; done) | (simp; omega) | (simp at *; omega)))) | ((with_reducible refine Below.setCell ?_ ?_ _); rotate_left; (focus (first | exact Nat.le_refl _ | omega | (simp; done) | (simp; omega) | (simp at *; omega)))))) (by rw [HV.out])⟩
      · have HV : Hid (noF p q m k = p k + E) := Lib.hid (by rw [HN.out]; omega)
        have u5 : IntKind.u8.wrap (p k + E) = p k + E := IntWalk.u8_in _ (by omega)
        go_wp2_with fail
        go_quiet ((go_at_call 125; exact quiet_left (HEL.out _ HQr.out)))
        go_wp2
        go_roundg (n - (k + 1))
        case measure => omega
        case rel => exact ⟨k + 1, by omega, rfl, by go_num, HS.out.step (by repeat (first | (with_reducible assumption) | (with_reducible exact Below.refl _ _) | (with_reducible refine Below.drew ?_) | (with_reducible refine below_drewN ?_ _) | ((with_reducible refine Below.alloc ?_ ?_ _); rotate_left; (focus (first | exact Nat.le_refl _ | omega | (simp; done) | (simp; omega) | (simp at *; omega)))) | ((with_reducible refine Below.setCell ?_ ?_ _); rotate_left; (focus (first | exact Nat.le_refl _ | omega | (simp; done) | (simp; omega) | (simp at *; omega)))))) (by rw [HV.out])⟩
    · obtain rfl : k = n := by omega
      have Ba := hI.b (b := w.heap.size + 1) (t := 26) (cs := #[.int .i64 0, .int .i64 0, .slice none 0 0]) (by simp)
      have ca := Ba.cell
      have fa := Ba.frozen
      have Hrow := Lib.hid (hI.row.congr upTo_all)
      have hbel := hI.bel
      clear hI Bo
      go_wp2
      refine bodyPost_ret (v := (iv W H (some ⟨w.heap.size + 1 + 1 + 1, 0, none⟩) k k)) (by simp [results, Try.results72, go_sem, *]) rfl ?_
      refine ⟨_, rfl, by omega, ?_, (by repeat (first | (with_reducible assumption) | (with_reducible exact Below.refl _ _) | (with_reducible refine Below.drew ?_) | (with_reducible refine below_drewN ?_ _) | ((with_reducible refine Below.alloc ?_ ?_ _); rotate_left; (focus (first | exact Nat.le_refl _ | omega | (simp; done) | (simp; omega) | (simp at *; omega)))) | ((with_reducible refine Below.setCell ?_ ?_ _); rotate_left; (focus (first | exact Nat.le_refl _ | omega | (simp; done) | (simp; omega) | (simp at *; omega))))))⟩
      have := Hrow.out
      exact (by repeat (first | (with_reducible assumption) | (with_reducible refine World.rowIs.drew ?_) | (with_reducible refine rowIs_drewN ?_ _) | (with_reducible refine World.rowIs.alloc ?_ _) | ((with_reducible refine World.rowIs.setOther ?_ ?_ _); rotate_left; (focus (first | (simp; done) | (simp; omega) | omega)))))

end Go.Proofs.Ytpdjiokmafoppaa
