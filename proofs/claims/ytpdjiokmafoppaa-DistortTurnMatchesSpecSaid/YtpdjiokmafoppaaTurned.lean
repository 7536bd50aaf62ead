/- ref5.Source and ref6.Turned. Conditions: the image is valid, its pixels read as bytes; the turn is one. -/
import Derived.Test.YtpdjiokmafoppaaInverse
namespace Go.Proofs.Ytpdjiokmafoppaa
open Go.RowKit

theorem src_bd {W H t x y : Int} (ht : 0 ≤ t ∧ t ≤ 7) (hW : -1000000 ≤ W ∧ W ≤ 1000000) (hH : -1000000 ≤ H ∧ H ≤ 1000000) (hx : -1000000 ≤ x ∧ x ≤ 1000000) (hy : -1000000 ≤ y ∧ y ≤ 1000000) :
    (-3000000 ≤ (srcP W H t x y).1 ∧ (srcP W H t x y).1 ≤ 3000000) ∧ (-3000000 ≤ (srcP W H t x y).2 ∧ (srcP W H t x y).2 ≤ 3000000) := by
  rcases tu_cases ht with rfl | rfl | rfl | rfl | rfl | rfl | rfl | rfl <;> simp [srcP] <;> omega

set_option maxHeartbeats 1000000 in
theorem Source_any (W H t x y : Int) (ht : 0 ≤ t ∧ t ≤ 7) (hW : -1000000 ≤ W ∧ W ≤ 1000000) (hH : -1000000 ≤ H ∧ H ≤ 1000000) (hx : -1000000 ≤ x ∧ x ≤ 1000000) (hy : -1000000 ≤ y ∧ y ≤ 1000000) (w : World) :
    Calls Try.prog 119 #[.int .i64 W, .int .i64 H, .int .i64 t, .int .i64 x, .int .i64 y] w fun e w' => e = .returned (.tuple #[.int .i64 (srcP W H t x y).1, .int .i64 (srcP W H t x y).2]) ∧ w = w' := by
  rcases tu_cases ht with rfl | rfl | rfl | rfl | rfl | rfl | rfl | rfl
  all_goals
    go_enter Try.func119, Try.ntmps119
    go_wp2
    go_ret2
    exact ⟨by simp [srcP], rfl⟩

-- BEHIND

set_option maxHeartbeats 2000000 in
set_option maxRecDepth 100000 in
theorem Turned_even (A : Option Addr) (n c : Nat) (W H t : Int) (p : Nat → Int) (w : World) (hi : ImgOk W H n) (hr : RdB w A n p) (ht : 0 ≤ t ∧ t ≤ 7) (hpar : t % 2 = 0) :
    Calls Try.prog 59 #[iv W H A n c, .int .i64 t] w fun e w' => ∃ g, e = .returned (iv W H (some ⟨g, 0, none⟩) n n) ∧ w.heap.size ≤ g ∧ w'.rowIs g 5 n (fun k => .int .u8 (tuF W H t p k)) ∧ Below w.heap.size w w' := by
  have HR := rd_later hr
  have HI := Lib.hid hi
  have HT := Lib.hid ht
  have hnb : n ≤ 409600 := by have := mul_bd ⟨hi.w1, hi.w2⟩ ⟨hi.h1, hi.h2⟩; have := hi.len; omega
  have hW := hi.w1
  have hW2 := hi.w2
  have hH := hi.h1
  have hH2 := hi.h2
  have EW : Hid (tuW W H t = W) := Lib.hid (by unfold tuW; rw [hpar]; rfl)
  have EH : Hid (tuH W H t = H) := Lib.hid (by unfold tuH; rw [hpar]; rfl)
  have um : t.tmod 2 = 0 := by rw [← hpar]; exact Int.tmod_eq_emod_of_nonneg (by omega)
  clear hr hi ht hpar
  go_enter Try.func59, Try.ntmps59
  go_wp2_with fail
  refine (White_any W H n HI.out.len (by omega) _).mono ?_
  rintro e w1 ⟨rfl, hrow, hbw1⟩
  have Hrow := Lib.hid hrow
  have hgl := hrow.lt
  clear hrow
  have hzw1 := hbw1.size
  try simp at hzw1
  have kw1 : Below w.heap.size w w1 := Below.trans (by repeat (first | (with_reducible assumption) | (with_reducible exact Below.refl _ _) | (with_reducible refine Below.drew ?_) | (with_reducible refine below_drewN ?_ _) | ((with_reducible refine Below.alloc ?_ ?_ _); rotate_left; (focus (first | exact Nat.le_refl _ | omega | (simp; done) | (simp; omega) | (simp at *; omega)))) | ((with_reducible refine Below.setCell ?_ ?_ _); rotate_left; (focus (first | exact Nat.le_refl _ | omega | (simp; done) | (simp; omega) | (simp at *; omega)))))) (hbw1.mono (by (focus (first | exact Nat.le_refl _ | omega | (simp; done) | (simp; omega) | (simp at *; omega)))))
  have kzw1 := kw1.size
  have Bin : Blk w1 (w.heap.size) 26 #[.int .i64 W, .int .i64 H, .slice A n c] := Blk.below (by repeat (first | (with_reducible assumption) | (with_reducible exact Blk.new _ _ _) | ((with_reducible refine Blk.new_at _ _ _ ?_); (focus (first | (simp; done) | omega))) | (with_reducible refine Blk.drew ?_) | (with_reducible refine Blk.drewN ?_ _) | (with_reducible refine Blk.alloc ?_ _) | ((with_reducible refine Blk.far ?_ ?_ _); rotate_left; (focus (first | (simp; done) | (simp; omega) | omega))))) hbw1 (by (focus (first | omega | (simp; done) | (simp; omega) | (simp at *; omega))))
  try clear ci fi
  try clear Bi
  have Bi := Bin
  clear Bin
  have ci := Bi.cell
  have fi := Bi.frozen
  have liw1 := Bi.lt
  have Ban : Blk w1 (w.heap.size + 1) 26 #[.int .i64 0, .int .i64 0, .slice none 0 0] := Blk.below (by repeat (first | (with_reducible assumption) | (with_reducible exact Blk.new _ _ _) | ((with_reducible refine Blk.new_at _ _ _ ?_); (focus (first | (simp; done) | omega))) | (with_reducible refine Blk.drew ?_) | (with_reducible refine Blk.drewN ?_ _) | (with_reducible refine Blk.alloc ?_ _) | ((with_reducible refine Blk.far ?_ ?_ _); rotate_left; (focus (first | (simp; done) | (simp; omega) | omega))))) hbw1 (by (focus (first | omega | (simp; done) | (simp; omega) | (simp at *; omega))))
  try clear ca fa
  try clear Ba
  have Ba := Ban
  clear Ban
  have ca := Ba.cell
  have fa := Ba.frozen
  have law1 := Ba.lt
  clear ci fi ca fa
  have H0 : LI w (w.heap.size + 1 + 1 + 1) n (upTo 0 (fun k => .int .u8 (tuF W H t p k)) (fun _ => .int .u8 255)) [(w.heap.size, 26, #[.int .i64 W, .int .i64 H, .slice A n c]), (w.heap.size + 1, 26, #[.int .i64 0, .int .i64 0, .slice none 0 0]), (w1.heap.size, 26, #[.int .i64 W, .int .i64 H, .slice (some ⟨w.heap.size + 1 + 1 + 1, 0, none⟩) n n])] (w1.alloc (.cells #[.int .i64 W, .int .i64 H, .slice (some ⟨w.heap.size + 1 + 1 + 1, 0, none⟩) n n] 26)) := by
    simp at hgl
    refine ⟨?_, ?_, by omega, (by repeat (first | (with_reducible assumption) | (with_reducible exact Below.refl _ _) | (with_reducible refine Below.drew ?_) | (with_reducible refine below_drewN ?_ _) | ((with_reducible refine Below.alloc ?_ ?_ _); rotate_left; (focus (first | exact Nat.le_refl _ | omega | (simp; done) | (simp; omega) | (simp at *; omega)))) | ((with_reducible refine Below.setCell ?_ ?_ _); rotate_left; (focus (first | exact Nat.le_refl _ | omega | (simp; done) | (simp; omega) | (simp at *; omega))))))⟩
    · rw [upTo_zero]; exact (by simpa using Hrow.out : w1.rowIs (w.heap.size + 1 + 1 + 1) 5 n _).alloc _
    · intro x hx
      simp only [List.mem_cons, List.not_mem_nil, or_false] at hx
      rcases hx with rfl | rfl | rfl
      · exact ⟨Bi.alloc _, (by (focus (first | (simp; done) | (simp; omega) | omega)))⟩
      · exact ⟨Ba.alloc _, (by (focus (first | (simp; done) | (simp; omega) | omega)))⟩
      · exact ⟨Blk.new _ _ _, (by (focus (first | (simp; done) | (simp; omega) | omega)))⟩
  clear Bi Ba Hrow hbw1
  go_wp2
  go_loopg [6] n (fun gk s6 wr => ∃ k : Nat, k ≤ n ∧ gk = n - k ∧ s6 = .int .i64 k ∧ LI w (w.heap.size + 1 + 1 + 1) n (upTo k (fun k => .int .u8 (tuF W H t p k)) (fun _ => .int .u8 255)) [(w.heap.size, 26, #[.int .i64 W, .int .i64 H, .slice A n c]), (w.heap.size + 1, 26, #[.int .i64 0, .int .i64 0, .slice none 0 0]), (w1.heap.size, 26, #[.int .i64 W, .int .i64 H, .slice (some ⟨w.heap.size + 1 + 1 + 1, 0, none⟩) n n])] wr)
  case atStart => exact ⟨0, by omega, rfl, rfl, H0⟩
  case round =>
    obtain ⟨k, hk, rfl, rfl, hI⟩ := hrel
    clear H0
    have HS := Lib.hid hI
    have Bo := hI.b (b := w1.heap.size) (t := 26) (cs := #[.int .i64 W, .int .i64 H, .slice (some ⟨w.heap.size + 1 + 1 + 1, 0, none⟩) n n]) (by simp)
    have co := Bo.cell
    by_cases hlt : k < n
    · have Bi := hI.b (b := w.heap.size) (t := 26) (cs := #[.int .i64 W, .int .i64 H, .slice A n c]) (by simp)
      have ci := Bi.cell
      have li := Bi.lt
      have lo := Bo.lt
      have hi2 : ImgOk W H n := by have := tu_img (t := t) HI.out; rw [EW.out, EH.out] at this; exact this
      obtain ⟨⟨x1, x2⟩, ⟨y1, y2⟩, _, kb, _⟩ := pix_bd hi2 hlt
      have HPX : Hid (px W H p (srcP W H t ((k : Int) % W) ((k : Int) / W)).1 (srcP W H t ((k : Int) % W) ((k : Int) / W)).2 = tuF W H t p k) := Lib.hid (by
        have h2 := (src_in (W := W) (H := H) HT.out).1 (show 0 ≤ (k : Int) % W ∧ (k : Int) % W < tuW W H t ∧ 0 ≤ (k : Int) / W ∧ (k : Int) / W < tuH W H t by rw [EW.out, EH.out]; exact ⟨x1, x2, y1, y2⟩)
        rw [px_pt ⟨h2.1, h2.2.1⟩ ⟨h2.2.2.1, h2.2.2.2⟩]
        show _ = pt W p (srcP W H t ((k : Int) % tuW W H t) ((k : Int) / tuW W H t)).1 (srcP W H t ((k : Int) % tuW W H t) ((k : Int) / tuW W H t)).2
        rw [EW.out])
      have hsb := src_bd (W := W) (H := H) (t := t) (x := (k : Int) % W) (y := (k : Int) / W) HT.out ⟨by omega, by omega⟩ ⟨by omega, by omega⟩ ⟨by omega, by omega⟩ ⟨by omega, by omega⟩
      have HSO := fun w => Source_any W H t ((k : Int) % W) ((k : Int) / W) HT.out ⟨by omega, by omega⟩ ⟨by omega, by omega⟩ ⟨by omega, by omega⟩ ⟨by omega, by omega⟩ w
      generalize hxs : (srcP W H t ((k : Int) % W) ((k : Int) / W)).1 = xs at *
      generalize hys : (srcP W H t ((k : Int) % W) ((k : Int) / W)).2 = ys at *
      clear hxs hys
      have HSS := Lib.hid HSO
      clear HSO
      have st := hI.row.cell hlt
      have fz := hI.row.frozen k
      have lg := hI.row.lt
      have ni := (hI.blk (w.heap.size, 26, #[.int .i64 W, .int .i64 H, .slice A n c]) (by simp)).2
      have no := (hI.blk (w1.heap.size, 26, #[.int .i64 W, .int .i64 H, .slice (some ⟨w.heap.size + 1 + 1 + 1, 0, none⟩) n n]) (by simp)).2
      have CS : Hid (∀ X, Below wr.heap.size wr X → X.cell? ⟨w.heap.size, 0, none⟩ = some (.int .i64 W) ∧ X.cell? ⟨w.heap.size, 1, none⟩ = some (.int .i64 H) ∧ X.cell? ⟨w.heap.size, 2, none⟩ = some (.slice A n c) ∧
          X.cell? ⟨w1.heap.size, 2, none⟩ = some (.slice (some ⟨w.heap.size + 1 + 1 + 1, 0, none⟩) n n)) :=
        Lib.hid fun X h => ⟨(Bi.below h li).cell 0, (Bi.below h li).cell 1, (Bi.below h li).cell 2, (Bo.below h lo).cell 2⟩
      have CT : Hid (∀ X v, Below wr.heap.size wr X → (X.setCell ⟨w.heap.size + 1 + 1 + 1, k, none⟩ v).cell? ⟨w.heap.size, 0, none⟩ = some (.int .i64 W) ∧ (X.setCell ⟨w.heap.size + 1 + 1 + 1, k, none⟩ v).cell? ⟨w.heap.size, 1, none⟩ = some (.int .i64 H) ∧ (X.setCell ⟨w.heap.size + 1 + 1 + 1, k, none⟩ v).cell? ⟨w.heap.size, 2, none⟩ = some (.slice A n c) ∧
          (X.setCell ⟨w.heap.size + 1 + 1 + 1, k, none⟩ v).cell? ⟨w1.heap.size, 2, none⟩ = some (.slice (some ⟨w.heap.size + 1 + 1 + 1, 0, none⟩) n n)) :=
        Lib.hid fun X v h => ⟨((Bi.below h li).far ni v).cell 0, ((Bi.below h li).far ni v).cell 1, ((Bi.below h li).far ni v).cell 2, ((Bo.below h lo).far no v).cell 2⟩
      have HRr := rd_later (HR.out _ hI.bel)
      have u1 : (k : Int).tmod W = (k : Int) % W := Int.tmod_eq_emod_of_nonneg (by omega)
      have u2 : (k : Int).tdiv W = (k : Int) / W := Int.tdiv_eq_ediv_of_nonneg (by omega)
      have u3 : ¬ W = 0 := by omega
      have u4 : IntKind.i64.wrap ((k : Int) % W) = (k : Int) % W := IntWalk.i64_in _ (by omega)
      have u5 : IntKind.i64.wrap ((k : Int) / W) = (k : Int) / W := IntWalk.i64_in _ (by omega)
      clear hI Bi Bo
      go_wp2_with fail
      go_quiet ((go_at_call 119; exact quiet_left (HSS.out _)))
      go_wp2_with fail
      go_region_held3 (fun X => X.cell? ⟨w.heap.size, 0, none⟩ = some (.int .i64 W) ∧ X.cell? ⟨w.heap.size, 1, none⟩ = some (.int .i64 H) ∧ X.cell? ⟨w.heap.size, 2, none⟩ = some (.slice A n c) ∧
          X.cell? ⟨w1.heap.size, 2, none⟩ = some (.slice (some ⟨w.heap.size + 1 + 1 + 1, 0, none⟩) n n))
        (first | exact CT.out _ _ (by repeat (first | (with_reducible assumption) | (with_reducible exact Below.refl _ _) | (with_reducible refine Below.drew ?_) | (with_reducible refine below_drewN ?_ _) | ((with_reducible refine Below.alloc ?_ ?_ _); rotate_left; (focus (first | exact Nat.le_refl _ | omega | (simp; done) | (simp; omega) | (simp at *; omega)))) | ((with_reducible refine Below.setCell ?_ ?_ _); rotate_left; (focus (first | exact Nat.le_refl _ | omega | (simp; done) | (simp; omega) | (simp at *; omega)))))) | exact CS.out _ (by repeat (first | (with_reducible assumption) | (with_reducible exact Below.refl _ _) | (with_reducible refine Below.drew ?_) | (with_reducible refine below_drewN ?_ _) | ((with_reducible refine Below.alloc ?_ ?_ _); rotate_left; (focus (first | exact Nat.le_refl _ | omega | (simp; done) | (simp; omega) | (simp at *; omega)))) | ((with_reducible refine Below.setCell ?_ ?_ _); rotate_left; (focus (first | exact Nat.le_refl _ | omega | (simp; done) | (simp; omega) | (simp at *; omega)))))))
        (first | (go_at_call 33; refine (Pixel_any A n c W H _ _ p _ HI.out (HRr.out _ (by repeat (first | (with_reducible assumption) | (with_reducible exact Below.refl _ _) | (with_reducible refine Below.drew ?_) | (with_reducible refine below_drewN ?_ _) | ((with_reducible refine Below.alloc ?_ ?_ _); rotate_left; (focus (first | exact Nat.le_refl _ | omega | (simp; done) | (simp; omega) | (simp at *; omega)))) | ((with_reducible refine Below.setCell ?_ ?_ _); rotate_left; (focus (first | exact Nat.le_refl _ | omega | (simp; done) | (simp; omega) | (simp at *; omega)))))))).mono ?_; rintro e w4 ⟨rfl, hb4⟩; obtain ⟨hc4, hf4⟩ := bcell hb4; have hz4 := hb4.size; have k4 : Below wr.heap.size wr w4 := Below.trans (by repeat (first | (with_reducible assumption) | (with_reducible exact Below.refl _ _) | (with_reducible refine Below.drew ?_) | (with_reducible refine below_drewN ?_ _) | ((with_reducible refine Below.alloc ?_ ?_ _); rotate_left; (focus (first | exact Nat.le_refl _ | omega | (simp; done) | (simp; omega) | (simp at *; omega)))) | ((with_reducible refine Below.setCell ?_ ?_ _); rotate_left; (focus (first | exact Nat.le_refl _ | omega | (simp; done) | (simp; omega) | (simp at *; omega)))))) (hb4.mono (by (focus (first | exact Nat.le_refl _ | omega | (simp; done) | (simp; omega) | (simp at *; omega))))); have st4 := (k4.cell (p := ⟨w.heap.size + 1 + 1 + 1, k, none⟩) lg).trans st; have fz4 := (k4.frozen (p := ⟨w.heap.size + 1 + 1 + 1, k, none⟩) lg).trans fz))
      go_wp2
      go_roundg (n - (k + 1))
      case measure => omega
      case rel => exact ⟨k + 1, by omega, rfl, by go_num, HS.out.step (by repeat (first | (with_reducible assumption) | (with_reducible exact Below.refl _ _) | (with_reducible refine Below.drew ?_) | (with_reducible refine below_drewN ?_ _) | ((with_reducible refine Below.alloc ?_ ?_ _); rotate_left; (focus (first | exact Nat.le_refl _ | omega | (simp; done) | (simp; omega) | (simp at *; omega)))) | ((with_reducible refine Below.setCell ?_ ?_ _); rotate_left; (focus (first | exact Nat.le_refl _ | omega | (simp; done) | (simp; omega) | (simp at *; omega)))))) (by rw [HPX.out])⟩
    · obtain rfl : k = n := by omega
      have Ba := hI.b (b := w.heap.size + 1) (t := 26) (cs := #[.int .i64 0, .int .i64 0, .slice none 0 0]) (by simp)
      have ca := Ba.cell
      have fa := Ba.frozen
      have Hrow := Lib.hid (hI.row.congr upTo_all)
      have hbel := hI.bel
      clear hI
      go_wp2
      refine bodyPost_ret (v := (iv W H (some ⟨w.heap.size + 1 + 1 + 1, 0, none⟩) k k)) (by simp [results, Try.results59, go_sem, *]) rfl ?_
      refine ⟨_, rfl, by omega, ?_, (by repeat (first | (with_reducible assumption) | (with_reducible exact Below.refl _ _) | (with_reducible refine Below.drew ?_) | (with_reducible refine below_drewN ?_ _) | ((with_reducible refine Below.alloc ?_ ?_ _); rotate_left; (focus (first | exact Nat.le_refl _ | omega | (simp; done) | (simp; omega) | (simp at *; omega)))) | ((with_reducible refine Below.setCell ?_ ?_ _); rotate_left; (focus (first | exact Nat.le_refl _ | omega | (simp; done) | (simp; omega) | (simp at *; omega))))))⟩
      have := Hrow.out
      exact (by repeat (first | (with_reducible assumption) | (with_reducible refine World.rowIs.drew ?_) | (with_reducible refine rowIs_drewN ?_ _) | (with_reducible refine World.rowIs.alloc ?_ _) | ((with_reducible refine World.rowIs.setOther ?_ ?_ _); rotate_left; (focus (first | (simp; done) | (simp; omega) | omega)))))

set_option maxHeartbeats 2000000 in
set_option maxRecDepth 100000 in
theorem Turned_odd (A : Option Addr) (n c : Nat) (W H t : Int) (p : Nat → Int) (w : World) (hi : ImgOk W H n) (hr : RdB w A n p) (ht : 0 ≤ t ∧ t ≤ 7) (hpar : t % 2 = 1) :
    Calls Try.prog 59 #[iv W H A n c, .int .i64 t] w fun e w' => ∃ g, e = .returned (iv H W (some ⟨g, 0, none⟩) n n) ∧ w.heap.size ≤ g ∧ w'.rowIs g 5 n (fun k => .int .u8 (tuF W H t p k)) ∧ Below w.heap.size w w' := by
  have HR := rd_later hr
  have HI := Lib.hid hi
  have HT := Lib.hid ht
  have hnb : n ≤ 409600 := by have := mul_bd ⟨hi.w1, hi.w2⟩ ⟨hi.h1, hi.h2⟩; have := hi.len; omega
  have hW := hi.w1
  have hW2 := hi.w2
  have hH := hi.h1
  have hH2 := hi.h2
  have EW : Hid (tuW W H t = H) := Lib.hid (by unfold tuW; rw [hpar]; rfl)
  have EH : Hid (tuH W H t = W) := Lib.hid (by unfold tuH; rw [hpar]; rfl)
  have um : t.tmod 2 = 1 := by rw [← hpar]; exact Int.tmod_eq_emod_of_nonneg (by omega)
  clear hr hi ht hpar
  go_enter Try.func59, Try.ntmps59
  go_wp2_with fail
  refine (White_any W H n HI.out.len (by omega) _).mono ?_
  rintro e w1 ⟨rfl, hrow, hbw1⟩
  clear hrow
  have hzw1 := hbw1.size
  try simp at hzw1
  have kw1 : Below w.heap.size w w1 := Below.trans (by repeat (first | (with_reducible assumption) | (with_reducible exact Below.refl _ _) | (with_reducible refine Below.drew ?_) | (with_reducible refine below_drewN ?_ _) | ((with_reducible refine Below.alloc ?_ ?_ _); rotate_left; (focus (first | exact Nat.le_refl _ | omega | (simp; done) | (simp; omega) | (simp at *; omega)))) | ((with_reducible refine Below.setCell ?_ ?_ _); rotate_left; (focus (first | exact Nat.le_refl _ | omega | (simp; done) | (simp; omega) | (simp at *; omega)))))) (hbw1.mono (by (focus (first | exact Nat.le_refl _ | omega | (simp; done) | (simp; omega) | (simp at *; omega)))))
  have kzw1 := kw1.size
  have Bin : Blk w1 (w.heap.size) 26 #[.int .i64 W, .int .i64 H, .slice A n c] := Blk.below (by repeat (first | (with_reducible assumption) | (with_reducible exact Blk.new _ _ _) | ((with_reducible refine Blk.new_at _ _ _ ?_); (focus (first | (simp; done) | omega))) | (with_reducible refine Blk.drew ?_) | (with_reducible refine Blk.drewN ?_ _) | (with_reducible refine Blk.alloc ?_ _) | ((with_reducible refine Blk.far ?_ ?_ _); rotate_left; (focus (first | (simp; done) | (simp; omega) | omega))))) hbw1 (by (focus (first | omega | (simp; done) | (simp; omega) | (simp at *; omega))))
  try clear ci fi
  try clear Bi
  have Bi := Bin
  clear Bin
  have ci := Bi.cell
  have fi := Bi.frozen
  have liw1 := Bi.lt
  have Ban : Blk w1 (w.heap.size + 1) 26 #[.int .i64 0, .int .i64 0, .slice none 0 0] := Blk.below (by repeat (first | (with_reducible assumption) | (with_reducible exact Blk.new _ _ _) | ((with_reducible refine Blk.new_at _ _ _ ?_); (focus (first | (simp; done) | omega))) | (with_reducible refine Blk.drew ?_) | (with_reducible refine Blk.drewN ?_ _) | (with_reducible refine Blk.alloc ?_ _) | ((with_reducible refine Blk.far ?_ ?_ _); rotate_left; (focus (first | (simp; done) | (simp; omega) | omega))))) hbw1 (by (focus (first | omega | (simp; done) | (simp; omega) | (simp at *; omega))))
  try clear ca fa
  try clear Ba
  have Ba := Ban
  clear Ban
  have ca := Ba.cell
  have fa := Ba.frozen
  have law1 := Ba.lt
  go_wp2_with fail
  refine (White_any H W n (by rw [Int.mul_comm]; exact HI.out.len) (by omega) _).mono ?_
  rintro e w2 ⟨rfl, hrow, hbw2⟩
  have Hrow := Lib.hid hrow
  have hgl := hrow.lt
  clear hrow
  have hzw2 := hbw2.size
  try simp at hzw2
  have kw2 : Below w.heap.size w w2 := Below.trans (by repeat (first | (with_reducible assumption) | (with_reducible exact Below.refl _ _) | (with_reducible refine Below.drew ?_) | (with_reducible refine below_drewN ?_ _) | ((with_reducible refine Below.alloc ?_ ?_ _); rotate_left; (focus (first | exact Nat.le_refl _ | omega | (simp; done) | (simp; omega) | (simp at *; omega)))) | ((with_reducible refine Below.setCell ?_ ?_ _); rotate_left; (focus (first | exact Nat.le_refl _ | omega | (simp; done) | (simp; omega) | (simp at *; omega)))))) (hbw2.mono (by (focus (first | exact Nat.le_refl _ | omega | (simp; done) | (simp; omega) | (simp at *; omega)))))
  have kzw2 := kw2.size
  have l12 : w1.heap.size < w2.heap.size := by simp at hgl; omega
  have Bin : Blk w2 (w.heap.size) 26 #[.int .i64 W, .int .i64 H, .slice A n c] := Blk.below (by repeat (first | (with_reducible assumption) | (with_reducible exact Blk.new _ _ _) | ((with_reducible refine Blk.new_at _ _ _ ?_); (focus (first | (simp; done) | omega))) | (with_reducible refine Blk.drew ?_) | (with_reducible refine Blk.drewN ?_ _) | (with_reducible refine Blk.alloc ?_ _) | ((with_reducible refine Blk.far ?_ ?_ _); rotate_left; (focus (first | (simp; done) | (simp; omega) | omega))))) hbw2 (by (focus (first | omega | (simp; done) | (simp; omega) | (simp at *; omega))))
  try clear ci fi
  try clear Bi
  have Bi := Bin
  clear Bin
  have ci := Bi.cell
  have fi := Bi.frozen
  have liw2 := Bi.lt
  have Ban : Blk w2 (w.heap.size + 1) 26 #[.int .i64 0, .int .i64 0, .slice none 0 0] := Blk.below (by repeat (first | (with_reducible assumption) | (with_reducible exact Blk.new _ _ _) | ((with_reducible refine Blk.new_at _ _ _ ?_); (focus (first | (simp; done) | omega))) | (with_reducible refine Blk.drew ?_) | (with_reducible refine Blk.drewN ?_ _) | (with_reducible refine Blk.alloc ?_ _) | ((with_reducible refine Blk.far ?_ ?_ _); rotate_left; (focus (first | (simp; done) | (simp; omega) | omega))))) hbw2 (by (focus (first | omega | (simp; done) | (simp; omega) | (simp at *; omega))))
  try clear ca fa
  try clear Ba
  have Ba := Ban
  clear Ban
  have ca := Ba.cell
  have fa := Ba.frozen
  have law2 := Ba.lt
  have Bon : Blk w2 (w1.heap.size) 26 #[.int .i64 W, .int .i64 H, .slice (some ⟨w.heap.size + 1 + 1 + 1, 0, none⟩) n n] := Blk.below (by repeat (first | (with_reducible assumption) | (with_reducible exact Blk.new _ _ _) | ((with_reducible refine Blk.new_at _ _ _ ?_); (focus (first | (simp; done) | omega))) | (with_reducible refine Blk.drew ?_) | (with_reducible refine Blk.drewN ?_ _) | (with_reducible refine Blk.alloc ?_ _) | ((with_reducible refine Blk.far ?_ ?_ _); rotate_left; (focus (first | (simp; done) | (simp; omega) | omega))))) hbw2 (by (focus (first | omega | (simp; done) | (simp; omega) | (simp at *; omega))))
  try clear co fo
  try clear Bo
  have Bo := Bon
  clear Bon
  have co := Bo.cell
  have fo := Bo.frozen
  have low2 := Bo.lt
  clear ci fi ca fa
  have H0 : LI w (w1.heap.size + 1 + 1) n (upTo 0 (fun k => .int .u8 (tuF W H t p k)) (fun _ => .int .u8 255)) [(w.heap.size, 26, #[.int .i64 W, .int .i64 H, .slice A n c]), (w.heap.size + 1, 26, #[.int .i64 0, .int .i64 0, .slice none 0 0]), (w1.heap.size, 26, #[.int .i64 H, .int .i64 W, .slice (some ⟨w1.heap.size + 1 + 1, 0, none⟩) n n])] (((w2.setCell ⟨w1.heap.size, 0, none⟩ (.int .i64 H)).setCell ⟨w1.heap.size, 1, none⟩ (.int .i64 W)).setCell ⟨w1.heap.size, 2, none⟩ (.slice (some ⟨w1.heap.size + 1 + 1, 0, none⟩) n n)) := by
    simp at hgl
    refine ⟨?_, ?_, by omega, (by repeat (first | (with_reducible assumption) | (with_reducible exact Below.refl _ _) | (with_reducible refine Below.drew ?_) | (with_reducible refine below_drewN ?_ _) | ((with_reducible refine Below.alloc ?_ ?_ _); rotate_left; (focus (first | exact Nat.le_refl _ | omega | (simp; done) | (simp; omega) | (simp at *; omega)))) | ((with_reducible refine Below.setCell ?_ ?_ _); rotate_left; (focus (first | exact Nat.le_refl _ | omega | (simp; done) | (simp; omega) | (simp at *; omega))))))⟩
    · rw [upTo_zero]; exact ((((by simpa using Hrow.out : w2.rowIs (w1.heap.size + 1 + 1) 5 n _)).setOther (by (focus (first | (simp; done) | (simp; omega) | omega))) _).setOther (by (focus (first | (simp; done) | (simp; omega) | omega))) _).setOther (by (focus (first | (simp; done) | (simp; omega) | omega))) _
    · intro x hx
      simp only [List.mem_cons, List.not_mem_nil, or_false] at hx
      rcases hx with rfl | rfl | rfl
      · exact ⟨((Bi.far (by (focus (first | (simp; done) | (simp; omega) | omega))) _).far (by (focus (first | (simp; done) | (simp; omega) | omega))) _).far (by (focus (first | (simp; done) | (simp; omega) | omega))) _, (by (focus (first | (simp; done) | (simp; omega) | omega)))⟩
      · exact ⟨((Ba.far (by (focus (first | (simp; done) | (simp; omega) | omega))) _).far (by (focus (first | (simp; done) | (simp; omega) | omega))) _).far (by (focus (first | (simp; done) | (simp; omega) | omega))) _, (by (focus (first | (simp; done) | (simp; omega) | omega)))⟩
      · exact ⟨((Bo.set_ 0 _).set_ 1 _).set_ 2 _, (by (focus (first | (simp; done) | (simp; omega) | omega)))⟩
  clear Bi Ba Bo Hrow hbw2
  go_wp2
  go_loopg [6] n (fun gk s6 wr => ∃ k : Nat, k ≤ n ∧ gk = n - k ∧ s6 = .int .i64 k ∧ LI w (w1.heap.size + 1 + 1) n (upTo k (fun k => .int .u8 (tuF W H t p k)) (fun _ => .int .u8 255)) [(w.heap.size, 26, #[.int .i64 W, .int .i64 H, .slice A n c]), (w.heap.size + 1, 26, #[.int .i64 0, .int .i64 0, .slice none 0 0]), (w1.heap.size, 26, #[.int .i64 H, .int .i64 W, .slice (some ⟨w1.heap.size + 1 + 1, 0, none⟩) n n])] wr)
  case atStart => exact ⟨0, by omega, rfl, rfl, H0⟩
  case round =>
    obtain ⟨k, hk, rfl, rfl, hI⟩ := hrel
    clear H0
    have HS := Lib.hid hI
    have Bo := hI.b (b := w1.heap.size) (t := 26) (cs := #[.int .i64 H, .int .i64 W, .slice (some ⟨w1.heap.size + 1 + 1, 0, none⟩) n n]) (by simp)
    have co := Bo.cell
    by_cases hlt : k < n
    · have Bi := hI.b (b := w.heap.size) (t := 26) (cs := #[.int .i64 W, .int .i64 H, .slice A n c]) (by simp)
      have ci := Bi.cell
      have li := Bi.lt
      have lo := Bo.lt
      have hi2 : ImgOk H W n := by have := tu_img (t := t) HI.out; rw [EW.out, EH.out] at this; exact this
      obtain ⟨⟨x1, x2⟩, ⟨y1, y2⟩, _, kb, _⟩ := pix_bd hi2 hlt
      have HPX : Hid (px W H p (srcP W H t ((k : Int) % H) ((k : Int) / H)).1 (srcP W H t ((k : Int) % H) ((k : Int) / H)).2 = tuF W H t p k) := Lib.hid (by
        have h2 := (src_in (W := W) (H := H) HT.out).1 (show 0 ≤ (k : Int) % H ∧ (k : Int) % H < tuW W H t ∧ 0 ≤ (k : Int) / H ∧ (k : Int) / H < tuH W H t by rw [EW.out, EH.out]; exact ⟨x1, x2, y1, y2⟩)
        rw [px_pt ⟨h2.1, h2.2.1⟩ ⟨h2.2.2.1, h2.2.2.2⟩]
        show _ = pt W p (srcP W H t ((k : Int) % tuW W H t) ((k : Int) / tuW W H t)).1 (srcP W H t ((k : Int) % tuW W H t) ((k : Int) / tuW W H t)).2
        rw [EW.out])
      have hsb := src_bd (W := W) (H := H) (t := t) (x := (k : Int) % H) (y := (k : Int) / H) HT.out ⟨by omega, by omega⟩ ⟨by omega, by omega⟩ ⟨by omega, by omega⟩ ⟨by omega, by omega⟩
      have HSO := fun w => Source_any W H t ((k : Int) % H) ((k : Int) / H) HT.out ⟨by omega, by omega⟩ ⟨by omega, by omega⟩ ⟨by omega, by omega⟩ ⟨by omega, by omega⟩ w
      generalize hxs : (srcP W H t ((k : Int) % H) ((k : Int) / H)).1 = xs at *
      generalize hys : (srcP W H t ((k : Int) % H) ((k : Int) / H)).2 = ys at *
      clear hxs hys
      have HSS := Lib.hid HSO
      clear HSO
      have st := hI.row.cell hlt
      have fz := hI.row.frozen k
      have lg := hI.row.lt
      have ni := (hI.blk (w.heap.size, 26, #[.int .i64 W, .int .i64 H, .slice A n c]) (by simp)).2
      have no := (hI.blk (w1.heap.size, 26, #[.int .i64 H, .int .i64 W, .slice (some ⟨w1.heap.size + 1 + 1, 0, none⟩) n n]) (by simp)).2
      have CS : Hid (∀ X, Below wr.heap.size wr X → X.cell? ⟨w.heap.size, 0, none⟩ = some (.int .i64 W) ∧ X.cell? ⟨w.heap.size, 1, none⟩ = some (.int .i64 H) ∧ X.cell? ⟨w.heap.size, 2, none⟩ = some (.slice A n c) ∧
          X.cell? ⟨w1.heap.size, 2, none⟩ = some (.slice (some ⟨w1.heap.size + 1 + 1, 0, none⟩) n n)) :=
        Lib.hid fun X h => ⟨(Bi.below h li).cell 0, (Bi.below h li).cell 1, (Bi.below h li).cell 2, (Bo.below h lo).cell 2⟩
      have CT : Hid (∀ X v, Below wr.heap.size wr X → (X.setCell ⟨w1.heap.size + 1 + 1, k, none⟩ v).cell? ⟨w.heap.size, 0, none⟩ = some (.int .i64 W) ∧ (X.setCell ⟨w1.heap.size + 1 + 1, k, none⟩ v).cell? ⟨w.heap.size, 1, none⟩ = some (.int .i64 H) ∧ (X.setCell ⟨w1.heap.size + 1 + 1, k, none⟩ v).cell? ⟨w.heap.size, 2, none⟩ = some (.slice A n c) ∧
          (X.setCell ⟨w1.heap.size + 1 + 1, k, none⟩ v).cell? ⟨w1.heap.size, 2, none⟩ = some (.slice (some ⟨w1.heap.size + 1 + 1, 0, none⟩) n n)) :=
        Lib.hid fun X v h => ⟨((Bi.below h li).far ni v).cell 0, ((Bi.below h li).far ni v).cell 1, ((Bi.below h li).far ni v).cell 2, ((Bo.below h lo).far no v).cell 2⟩
      have HRr := rd_later (HR.out _ hI.bel)
      have u1 : (k : Int).tmod H = (k : Int) % H := Int.tmod_eq_emod_of_nonneg (by omega)
      have u2 : (k : Int).tdiv H = (k : Int) / H := Int.tdiv_eq_ediv_of_nonneg (by omega)
      have u3 : ¬ H = 0 := by omega
      have u4 : IntKind.i64.wrap ((k : Int) % H) = (k : Int) % H := IntWalk.i64_in _ (by omega)
      have u5 : IntKind.i64.wrap ((k : Int) / H) = (k : Int) / H := IntWalk.i64_in _ (by omega)
      clear hI Bi Bo
      go_wp2_with fail
      go_quiet ((go_at_call 119; exact quiet_left (HSS.out _)))
      go_wp2_with fail
      go_region_held3 (fun X => X.cell? ⟨w.heap.size, 0, none⟩ = some (.int .i64 W) ∧ X.cell? ⟨w.heap.size, 1, none⟩ = some (.int .i64 H) ∧ X.cell? ⟨w.heap.size, 2, none⟩ = some (.slice A n c) ∧
          X.cell? ⟨w1.heap.size, 2, none⟩ = some (.slice (some ⟨w1.heap.size + 1 + 1, 0, none⟩) n n))
        (first | exact CT.out _ _ (by repeat (first | (with_reducible assumption) | (with_reducible exact Below.refl _ _) | (with_reducible refine Below.drew ?_) | (with_reducible refine below_drewN ?_ _) | ((with_reducible refine Below.alloc ?_ ?_ _); rotate_left; (focus (first | exact Nat.le_refl _ | omega | (simp; done) | (simp; omega) | (simp at *; omega)))) | ((with_reducible refine Below.setCell ?_ ?_ _); rotate_left; (focus (first | exact Nat.le_refl _ | omega | (simp; done) | (simp; omega) | (simp at *; omega)))))) | exact CS.out _ (by repeat (first | (with_reducible assumption) | (with_reducible exact Below.refl _ _) | (with_reducible refine Below.drew ?_) | (with_reducible refine below_drewN ?_ _) | ((with_reducible refine Below.alloc ?_ ?_ _); rotate_left; (focus (first | exact Nat.le_refl _ | omega | (simp; done) | (simp; omega) | (simp at *; omega)))) | ((with_reducible refine Below.setCell ?_ ?_ _); rotate_left; (focus (first | exact Nat.le_refl _ | omega | (simp; done) | (simp; omega) | (simp at *; omega)))))))
        (first | (go_at_call 33; refine (Pixel_any A n c W H _ _ p _ HI.out (HRr.out _ (by repeat (first | (with_reducible assumption) | (with_reducible exact Below.refl _ _) | (with_reducible refine Below.drew ?_) | (with_reducible refine below_drewN ?_ _) | ((with_reducible refine Below.alloc ?_ ?_ _); rotate_left; (focus (first | exact Nat.le_refl _ | omega | (simp; done) | (simp; omega) | (simp at *; omega)))) | ((with_reducible refine Below.setCell ?_ ?_ _); rotate_left; (focus (first | exact Nat.le_refl _ | omega | (simp; done) | (simp; omega) | (simp at *; omega)))))))).mono ?_; rintro e w4 ⟨rfl, hb4⟩; obtain ⟨hc4, hf4⟩ := bcell hb4; have hz4 := hb4.size; have k4 : Below wr.heap.size wr w4 := Below.trans (by repeat (first | (with_reducible assumption) | (with_reducible exact Below.refl _ _) | (with_reducible refine Below.drew ?_) | (with_reducible refine below_drewN ?_ _) | ((with_reducible refine Below.alloc ?_ ?_ _); rotate_left; (focus (first | exact Nat.le_refl _ | omega | (simp; done) | (simp; omega) | (simp at *; omega)))) | ((with_reducible refine Below.setCell ?_ ?_ _); rotate_left; (focus (first | exact Nat.le_refl _ | omega | (simp; done) | (simp; omega) | (simp at *; omega)))))) (hb4.mono (by (focus (first | exact Nat.le_refl _ | omega | (simp; done) | (simp; omega) | (simp at *; omega))))); have st4 := (k4.cell (p := ⟨w1.heap.size + 1 + 1, k, none⟩) lg).trans st; have fz4 := (k4.frozen (p := ⟨w1.heap.size + 1 + 1, k, none⟩) lg).trans fz))
      go_wp2
      go_roundg (n - (k + 1))
      case measure => omega
      case rel => exact ⟨k + 1, by omega, rfl, by go_num, HS.out.step (by repeat (first | (with_reducible assumption) | (with_reducible exact Below.refl _ _) | (with_reducible refine Below.drew ?_) | (with_reducible refine below_drewN ?_ _) | ((with_reducible refine Below.alloc ?_ ?_ _); rotate_left; (focus (first | exact Nat.le_refl _ | omega | (simp; done) | (simp; omega) | (simp at *; omega)))) | ((with_reducible refine Below.setCell ?_ ?_ _); rotate_left; (focus (first | exact Nat.le_refl _ | omega | (simp; done) | (simp; omega) | (simp at *; omega)))))) (by rw [HPX.out])⟩
    · obtain rfl : k = n := by omega
      have Ba := hI.b (b := w.heap.size + 1) (t := 26) (cs := #[.int .i64 0, .int .i64 0, .slice none 0 0]) (by simp)
      have ca := Ba.cell
      have fa := Ba.frozen
      have Hrow := Lib.hid (hI.row.congr upTo_all)
      have hbel := hI.bel
      clear hI
      go_wp2
      refine bodyPost_ret (v := (iv H W (some ⟨w1.heap.size + 1 + 1, 0, none⟩) k k)) (by simp [results, Try.results59, go_sem, *]) rfl ?_
      refine ⟨_, rfl, by omega, ?_, (by repeat (first | (with_reducible assumption) | (with_reducible exact Below.refl _ _) | (with_reducible refine Below.drew ?_) | (with_reducible refine below_drewN ?_ _) | ((with_reducible refine Below.alloc ?_ ?_ _); rotate_left; (focus (first | exact Nat.le_refl _ | omega | (simp; done) | (simp; omega) | (simp at *; omega)))) | ((with_reducible refine Below.setCell ?_ ?_ _); rotate_left; (focus (first | exact Nat.le_refl _ | omega | (simp; done) | (simp; omega) | (simp at *; omega))))))⟩
      have := Hrow.out
      exact (by repeat (first | (with_reducible assumption) | (with_reducible refine World.rowIs.drew ?_) | (with_reducible refine rowIs_drewN ?_ _) | (with_reducible refine World.rowIs.alloc ?_ _) | ((with_reducible refine World.rowIs.setOther ?_ ?_ _); rotate_left; (focus (first | (simp; done) | (simp; omega) | omega)))))

/-- ref6.Turned. -/
theorem Turned_ok (A : Option Addr) (n c : Nat) (W H t : Int) (p : Nat → Int) (w : World) (hi : ImgOk W H n) (hr : RdB w A n p) (ht : 0 ≤ t ∧ t ≤ 7) :
    Calls Try.prog 59 #[iv W H A n c, .int .i64 t] w fun e w' => ∃ g, e = .returned (iv (tuW W H t) (tuH W H t) (some ⟨g, 0, none⟩) n n) ∧ w.heap.size ≤ g ∧ w'.rowIs g 5 n (fun k => .int .u8 (tuF W H t p k)) ∧ Below w.heap.size w w' := by
  by_cases h : t % 2 = 1
  · rw [show tuW W H t = H from by unfold tuW; rw [if_pos h], show tuH W H t = W from by unfold tuH; rw [if_pos h]]
    exact Turned_odd A n c W H t p w hi hr ht h
  · rw [show tuW W H t = W from by unfold tuW; rw [if_neg h], show tuH W H t = H from by unfold tuH; rw [if_neg h]]
    exact Turned_even A n c W H t p w hi hr ht (by omega)

end Go.Proofs.Ytpdjiokmafoppaa
