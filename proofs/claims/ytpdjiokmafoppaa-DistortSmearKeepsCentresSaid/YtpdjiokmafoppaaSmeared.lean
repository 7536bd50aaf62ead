/- ref6.Smeared: its pixels are those of smF. Conditions: the image is valid, its pixels read as bytes. -/
import Derived.Test.YtpdjiokmafoppaaSmear
namespace Go.Proofs.Ytpdjiokmafoppaa
open Go.RowKit

set_option maxHeartbeats 2000000 in
set_option maxRecDepth 100000 in
theorem Smeared_ok (A : Option Addr) (n c : Nat) (W H : Int) (p : Nat → Int) (w : World) (hi : ImgOk W H n) (hp : Byt p) (hr : RdB w A n p) :
    Calls Try.prog 55 #[iv W H A n c] w fun e w' => ∃ g, e = .returned (iv W H (some ⟨g, 0, none⟩) n n) ∧ w.heap.size ≤ g ∧ w'.rowIs g 5 n (fun k => .int .u8 (smF W H p k)) ∧ Below w.heap.size w w' := by
  have HR := rd_later hr
  have HI := Lib.hid hi
  have hnb : n ≤ 409600 := by have := mul_bd ⟨hi.w1, hi.w2⟩ ⟨hi.h1, hi.h2⟩; have := hi.len; omega
  have hW := hi.w1
  have hW2 := hi.w2
  have hH2 := hi.h2
  clear hr hi
  go_enter Try.func55, Try.ntmps55
  go_wp2_with fail
  refine (White_any W H n HI.out.len (by omega) _).mono ?_
  rintro e w1 ⟨rfl, hrow, hbw1⟩
  have Hrow := Lib.hid hrow
  have hgl := hrow.lt
  clear hrow
  have hzw1 := hbw1.size
  try simp at hzw1
  have kw1 : Below w.heap.size w w1 := Below.trans (by repeat (first | (with_reducible assumption) | (with_reducible exact Below.refl _ _) | (with_reducible refine Below.drew ?_) | (with_reducible refine below_drewN ?_ _) | ((with_reducible refine Below.alloc ?_ ?_ _); rotate_left; (focus (first | exact Nat.le_refl _ | omega | (simp; done) | (simp; omega) | (simp at *; omega)))) | ((with_reducible refine Below.setCell ?_ ?_ _); rotate_left; (focus (first | exact Nat.le_refl _ | omega | (simp; done) | (simp; omega) | (simp at *; omega)))))) (hbw1.mono (by (focus (first | exact Nat.le_refl _ | omega | (simp; done) | (simp; omega) | (simp at *; omega)))))
  have kzw1 := kw1.size
  have Bin : Blk w1 (w.heap.size) 26 #[.int .i64 W, .int .i64 H, .slice A n c] := Blk.below (by repeat (first | (with_reducible assumption) | (with_reducible exact Blk.new _ _ _) | ((with_reducible refine Blk.new_at _ _ _ ?_); (focus (first | (simp; done) | omega))) | (with_reducible refine Blk.drew ?_) | (with_reducible refine Blk.drewN ?_ _) | (with_reducible refine Blk.alloc ?_ _) | ((with_reducible refine Blk.far ?_ ?_ _); rotate_left; (focus (first | (simp; done) | (simp; omega) | omega))))) hbw1 (by (focus (first | omega | (simp; done) | (simp; omega) | (simp at *; omega))))
  try clear ci fi
  try clear Bi
  have Bi := Bin
  clear Bin
  have ci := Bi.cell
  have fi := Bi.frozen
  have liw1 := Bi.lt
  have Ban : Blk w1 (w.heap.size + 1) 26 #[.int .i64 0, .int .i64 0, .slice none 0 0] := Blk.below (by repeat (first | (with_reducible assumption) | (with_reducible exact Blk.new _ _ _) | ((with_reducible refine Blk.new_at _ _ _ ?_); (focus (first | (simp; done) | omega))) | (with_reducible refine Blk.drew ?_) | (with_reducible refine Blk.drewN ?_ _) | (with_reducible refine Blk.alloc ?_ _) | ((with_reducible refine Blk.far ?_ ?_ _); rotate_left; (focus (first | (simp; done) | (simp; omega) | omega))))) hbw1 (by (focus (first | omega | (simp; done) | (simp; omega) | (simp at *; omega))))
  try clear ca fa
  try clear Ba
  have Ba := Ban
  clear Ban
  have ca := Ba.cell
  have fa := Ba.frozen
  have law1 := Ba.lt
  clear ci fi ca fa
  have H0 : LI w (w.heap.size + 1 + 1 + 1) n (upTo 0 (fun k => .int .u8 (smF W H p k)) (fun _ => .int .u8 255)) [(w.heap.size, 26, #[.int .i64 W, .int .i64 H, .slice A n c]), (w.heap.size + 1, 26, #[.int .i64 0, .int .i64 0, .slice none 0 0]),
      (w1.heap.size, 26, #[.int .i64 W, .int .i64 H, .slice (some ⟨w.heap.size + 1 + 1 + 1, 0, none⟩) n n])] (w1.alloc (.cells #[.int .i64 W, .int .i64 H, .slice (some ⟨w.heap.size + 1 + 1 + 1, 0, none⟩) n n] 26)) := by
    simp at hgl
    refine ⟨?_, ?_, by omega, (by repeat (first | (with_reducible assumption) | (with_reducible exact Below.refl _ _) | (with_reducible refine Below.drew ?_) | (with_reducible refine below_drewN ?_ _) | ((with_reducible refine Below.alloc ?_ ?_ _); rotate_left; (focus (first | exact Nat.le_refl _ | omega | (simp; done) | (simp; omega) | (simp at *; omega)))) | ((with_reducible refine Below.setCell ?_ ?_ _); rotate_left; (focus (first | exact Nat.le_refl _ | omega | (simp; done) | (simp; omega) | (simp at *; omega))))))⟩
    · rw [upTo_zero]; exact (by simpa using Hrow.out : w1.rowIs (w.heap.size + 1 + 1 + 1) 5 n _).alloc _
    · intro x hx
      simp only [List.mem_cons, List.not_mem_nil, or_false] at hx
      rcases hx with rfl | rfl | rfl
      · exact ⟨Bi.alloc _, (by (focus (first | (simp; done) | (simp; omega) | omega)))⟩
      · exact ⟨Ba.alloc _, (by (focus (first | (simp; done) | (simp; omega) | omega)))⟩
      · exact ⟨Blk.new _ _ _, (by (focus (first | (simp; done) | (simp; omega) | omega)))⟩
  clear Bi Ba Hrow hbw1
  go_wp2
  go_loopg [4] n (fun gk s4 wr => ∃ k : Nat, k ≤ n ∧ gk = n - k ∧ s4 = .int .i64 k ∧ LI w (w.heap.size + 1 + 1 + 1) n (upTo k (fun k => .int .u8 (smF W H p k)) (fun _ => .int .u8 255)) [(w.heap.size, 26, #[.int .i64 W, .int .i64 H, .slice A n c]), (w.heap.size + 1, 26, #[.int .i64 0, .int .i64 0, .slice none 0 0]),
      (w1.heap.size, 26, #[.int .i64 W, .int .i64 H, .slice (some ⟨w.heap.size + 1 + 1 + 1, 0, none⟩) n n])] wr)
  case atStart => exact ⟨0, by omega, rfl, rfl, H0⟩
  case round =>
    obtain ⟨k, hk, rfl, rfl, hI⟩ := hrel
    clear H0
    have Bo := hI.b (b := w1.heap.size) (t := 26) (cs := #[.int .i64 W, .int .i64 H, .slice (some ⟨w.heap.size + 1 + 1 + 1, 0, none⟩) n n]) (by simp)
    have co := Bo.cell
    clear Bo
    by_cases hlt : k < n
    · obtain ⟨⟨x1, x2⟩, ⟨y1, y2⟩, _, kb, _⟩ := pix_bd HI.out hlt
      have y3 := hH2
      go_wp2
      clear co
      go_loopg [5, 6] 9 (fun gk s5 s6 wi => ∃ j : Nat, j ≤ 9 ∧ gk = 9 - j ∧ s5 = .int .i64 (smSum W H p k j) ∧ s6 = .int .i64 j ∧ LI w (w.heap.size + 1 + 1 + 1) n (upTo k (fun k => .int .u8 (smF W H p k)) (fun _ => .int .u8 255)) [(w.heap.size, 26, #[.int .i64 W, .int .i64 H, .slice A n c]), (w.heap.size + 1, 26, #[.int .i64 0, .int .i64 0, .slice none 0 0]),
      (w1.heap.size, 26, #[.int .i64 W, .int .i64 H, .slice (some ⟨w.heap.size + 1 + 1 + 1, 0, none⟩) n n])] wi)
      case atStart => exact ⟨0, by omega, rfl, rfl, rfl, hI⟩
      case round =>
        clear hI
        obtain ⟨j, hj, rfl, rfl, rfl, hI⟩ := hrel
        have HS := Lib.hid hI
        by_cases hj9 : j < 9
        · have Bi := hI.b (b := w.heap.size) (t := 26) (cs := #[.int .i64 W, .int .i64 H, .slice A n c]) (by simp)
          have ci := Bi.cell
          have li := Bi.lt
          have CS : Hid (∀ X, Below wr.heap.size wr X → X.cell? ⟨w.heap.size, 0, none⟩ = some (.int .i64 W) ∧ X.cell? ⟨w.heap.size, 1, none⟩ = some (.int .i64 H) ∧ X.cell? ⟨w.heap.size, 2, none⟩ = some (.slice A n c)) :=
            Lib.hid fun X h => ⟨(h.cell (p := ⟨w.heap.size, 0, none⟩) li).trans (ci 0), (h.cell (p := ⟨w.heap.size, 1, none⟩) li).trans (ci 1), (h.cell (p := ⟨w.heap.size, 2, none⟩) li).trans (ci 2)⟩
          have sb := smSum_bd (W := W) (H := H) hp k j
          have kb1 := px_byt (W := W) (H := H) hp ((k : Int) % W + (j : Int) % 3 - 1) ((k : Int) / W + (j : Int) / 3 - 1)
          have SE : Hid (smSum W H p k (j + 1) = smSum W H p k j + px W H p ((k : Int) % W + (j : Int) % 3 - 1) ((k : Int) / W + (j : Int) / 3 - 1)) := Lib.hid rfl
          have HRr := rd_later (HR.out _ hI.bel)
          have u1 : (k : Int).tmod W = (k : Int) % W := Int.tmod_eq_emod_of_nonneg (by omega)
          have u2 : (k : Int).tdiv W = (k : Int) / W := Int.tdiv_eq_ediv_of_nonneg (by omega)
          have u3 : ¬ W = 0 := by omega
          have u4 : IntKind.i64.wrap ((k : Int) % W) = (k : Int) % W := IntWalk.i64_in _ (by omega)
          have u5 : IntKind.i64.wrap ((k : Int) / W) = (k : Int) / W := IntWalk.i64_in _ (by omega)
          have v1 : (j : Int).tmod 3 = (j : Int) % 3 := Int.tmod_eq_emod_of_nonneg (by omega)
          have v2 : (j : Int).tdiv 3 = (j : Int) / 3 := Int.tdiv_eq_ediv_of_nonneg (by omega)
          have v4 : IntKind.i64.wrap ((j : Int) % 3) = (j : Int) % 3 := IntWalk.i64_in _ (by omega)
          have v5 : IntKind.i64.wrap ((j : Int) / 3) = (j : Int) / 3 := IntWalk.i64_in _ (by omega)
          have a1 : IntKind.i64.wrap ((k : Int) % W + (j : Int) % 3) = (k : Int) % W + (j : Int) % 3 := IntWalk.i64_in _ (by omega)
          have a2 : IntKind.i64.wrap ((k : Int) / W + (j : Int) / 3) = (k : Int) / W + (j : Int) / 3 := IntWalk.i64_in _ (by omega)
          have a3 : IntKind.i64.wrap ((k : Int) % W + (j : Int) % 3 - 1) = (k : Int) % W + (j : Int) % 3 - 1 := IntWalk.i64_in _ (by omega)
          have a4 : IntKind.i64.wrap ((k : Int) / W + (j : Int) / 3 - 1) = (k : Int) / W + (j : Int) / 3 - 1 := IntWalk.i64_in _ (by omega)
          have a6 : IntKind.i64.wrap (px W H p ((k : Int) % W + (j : Int) % 3 - 1) ((k : Int) / W + (j : Int) / 3 - 1)) = px W H p ((k : Int) % W + (j : Int) % 3 - 1) ((k : Int) / W + (j : Int) / 3 - 1) := IntWalk.i64_in _ (by omega)
          have a5 : IntKind.i64.wrap (smSum W H p k j + px W H p ((k : Int) % W + (j : Int) % 3 - 1) ((k : Int) / W + (j : Int) / 3 - 1)) = smSum W H p k j + px W H p ((k : Int) % W + (j : Int) % 3 - 1) ((k : Int) / W + (j : Int) / 3 - 1) := IntWalk.i64_in _ (by omega)
          clear hI Bi ci
          go_wp2_with fail
          go_region_held3 (fun X => X.cell? ⟨w.heap.size, 0, none⟩ = some (.int .i64 W) ∧ X.cell? ⟨w.heap.size, 1, none⟩ = some (.int .i64 H) ∧ X.cell? ⟨w.heap.size, 2, none⟩ = some (.slice A n c))
            (exact CS.out _ (by repeat (first | (with_reducible assumption) | (with_reducible exact Below.refl _ _) | (with_reducible refine Below.drew ?_) | (with_reducible refine below_drewN ?_ _) | ((with_reducible refine Below.alloc ?_ ?_ _); rotate_left; (focus (first | exact Nat.le_refl _ | omega | (simp; done) | (simp; omega) | (simp at *; omega)))) | ((with_reducible refine Below.setCell ?_ ?_ _); rotate_left; (focus (first | exact Nat.le_refl _ | omega | (simp; done) | (simp; omega) | (simp at *; omega)))))))
            (first | (go_at_call 33; refine (Pixel_any A n c W H _ _ p _ HI.out (HRr.out _ (by repeat (first | (with_reducible assumption) | (with_reducible exact Below.refl _ _) | (with_reducible refine Below.drew ?_) | (with_reducible refine below_drewN ?_ _) | ((with_reducible refine Below.alloc ?_ ?_ _); rotate_left; (focus (first | exact Nat.le_refl _ | omega | (simp; done) | (simp; omega) | (simp at *; omega)))) | ((with_reducible refine Below.setCell ?_ ?_ _); rotate_left; (focus (first | exact Nat.le_refl _ | omega | (simp; done) | (simp; omega) | (simp at *; omega)))))))).mono ?_; rintro e w3 ⟨rfl, hb3⟩; obtain ⟨hc3, hf3⟩ := bcell hb3; have hz3 := hb3.size; have k3 : Below wr.heap.size wr w3 := Below.trans (by repeat (first | (with_reducible assumption) | (with_reducible exact Below.refl _ _) | (with_reducible refine Below.drew ?_) | (with_reducible refine below_drewN ?_ _) | ((with_reducible refine Below.alloc ?_ ?_ _); rotate_left; (focus (first | exact Nat.le_refl _ | omega | (simp; done) | (simp; omega) | (simp at *; omega)))) | ((with_reducible refine Below.setCell ?_ ?_ _); rotate_left; (focus (first | exact Nat.le_refl _ | omega | (simp; done) | (simp; omega) | (simp at *; omega)))))) (hb3.mono (by (focus (first | exact Nat.le_refl _ | omega | (simp; done) | (simp; omega) | (simp at *; omega)))))))
          go_wp2
          go_roundg (9 - (j + 1))
          case measure => omega
          case rel => exact ⟨j + 1, by omega, rfl, by rw [SE.out], by go_num, HS.out.mono (by repeat (first | (with_reducible assumption) | (with_reducible exact Below.refl _ _) | (with_reducible refine Below.drew ?_) | (with_reducible refine below_drewN ?_ _) | ((with_reducible refine Below.alloc ?_ ?_ _); rotate_left; (focus (first | exact Nat.le_refl _ | omega | (simp; done) | (simp; omega) | (simp at *; omega)))) | ((with_reducible refine Below.setCell ?_ ?_ _); rotate_left; (focus (first | exact Nat.le_refl _ | omega | (simp; done) | (simp; omega) | (simp at *; omega))))))⟩
        · obtain rfl : j = 9 := by omega
          have Bo := hI.b (b := w1.heap.size) (t := 26) (cs := #[.int .i64 W, .int .i64 H, .slice (some ⟨w.heap.size + 1 + 1 + 1, 0, none⟩) n n]) (by simp)
          have co := Bo.cell
          have st := hI.row.cell hlt
          have fz := hI.row.frozen k
          have sb := smSum_bd (W := W) (H := H) hp k 9
          have d1 : (smSum W H p k 9).tdiv 9 = smF W H p k := Int.tdiv_eq_ediv_of_nonneg (by omega)
          have bf := smF_byt (W := W) (H := H) hp k
          have d2 : IntKind.u8.wrap (smF W H p k) = smF W H p k := IntWalk.u8_in _ (by omega)
          have d3 : IntKind.i64.wrap (smF W H p k) = smF W H p k := IntWalk.i64_in _ (by omega)
          clear hI Bo
          go_wp2
          go_roundg (n - (k + 1))
          case measure => omega
          case rel => exact ⟨k + 1, by omega, rfl, by go_num, HS.out.step (by repeat (first | (with_reducible assumption) | (with_reducible exact Below.refl _ _) | (with_reducible refine Below.drew ?_) | (with_reducible refine below_drewN ?_ _) | ((with_reducible refine Below.alloc ?_ ?_ _); rotate_left; (focus (first | exact Nat.le_refl _ | omega | (simp; done) | (simp; omega) | (simp at *; omega)))) | ((with_reducible refine Below.setCell ?_ ?_ _); rotate_left; (focus (first | exact Nat.le_refl _ | omega | (simp; done) | (simp; omega) | (simp at *; omega)))))) rfl⟩
    · obtain rfl : k = n := by omega
      have Ba := hI.b (b := w.heap.size + 1) (t := 26) (cs := #[.int .i64 0, .int .i64 0, .slice none 0 0]) (by simp)
      have ca := Ba.cell
      have fa := Ba.frozen
      have Hrow := Lib.hid (hI.row.congr upTo_all)
      have hbel := hI.bel
      clear hI
      go_wp2
      refine bodyPost_ret (v := (iv W H (some ⟨w.heap.size + 1 + 1 + 1, 0, none⟩) k k)) (by simp [results, Try.results55, go_sem, *]) rfl ?_
      refine ⟨_, rfl, by omega, ?_, (by repeat (first | (with_reducible assumption) | (with_reducible exact Below.refl _ _) | (with_reducible refine Below.drew ?_) | (with_reducible refine below_drewN ?_ _) | ((with_reducible refine Below.alloc ?_ ?_ _); rotate_left; (focus (first | exact Nat.le_refl _ | omega | (simp; done) | (simp; omega) | (simp at *; omega)))) | ((with_reducible refine Below.setCell ?_ ?_ _); rotate_left; (focus (first | exact Nat.le_refl _ | omega | (simp; done) | (simp; omega) | (simp at *; omega))))))⟩
      have := Hrow.out
      exact (by repeat (first | (with_reducible assumption) | (with_reducible refine World.rowIs.drew ?_) | (with_reducible refine rowIs_drewN ?_ _) | (with_reducible refine World.rowIs.alloc ?_ _) | ((with_reducible refine World.rowIs.setOther ?_ ?_ _); rotate_left; (focus (first | (simp; done) | (simp; omega) | omega)))))

end Go.Proofs.Ytpdjiokmafoppaa
