/- The walk of RenderMarginsOnlyMove: it returns true and turns nothing that was there. Conditions: the cells read as bytes. -/
import Derived.Test.YtpdjiokmafoppaaRMS
import Derived.Test.YtpdjiokmafoppaaField
namespace Go.Proofs.Ytpdjiokmafoppaa
open Go.RowKit

theorem Pixel_eq (A : Option Addr) (n c : Nat) (W H x y v : Int) (p : Nat → Int) (w : World) (hi : ImgOk W H n) (hr : RdB w A n p) (hv : px W H p x y = v) :
    Calls Try.prog 33 #[iv W H A n c, .int .i64 x, .int .i64 y] w fun e w' => e = .returned (.int .u8 v) ∧ Below w.heap.size w w' := by
  subst hv; exact Pixel_any A n c W H x y p w hi hr

set_option maxHeartbeats 4000000 in
set_option maxRecDepth 100000 in
theorem RMO_bad (A : Option Addr) (n c : Nat) (L R C s l t x y : Int) (p : Nat → Int) (w : World) (hn : n ≤ maxLen) (hp : Byt p) (hr : RdB w A n p)
    (hb : (drawF (gridF L R C n p) s l t).1 ≠ 0) :
    Calls Try.prog 4 #[gv L R C A n c, .int .i64 s, .int .i64 l, .int .i64 t, .int .i64 x, .int .i64 y] w fun e w' => e = .returned (.bool true) ∧ Below w.heap.size w w' := by
  have H2 := rd_later hr
  clear hr
  obtain ⟨c0, i0, hci⟩ : ∃ c0 i0, drawF (gridF L R C n p) s l t = (c0, i0) := ⟨_, _, rfl⟩
  have hb0 : (c0 != 0) = true := by rw [hci] at hb; simpa using hb
  have HCI := Lib.hid hci
  clear hb hci
  go_enter Try.func4, Try.ntmps4
  go_wp2_with fail
  refine (DrawFault_any A n c L R C s l t p _ hn hp (H2.out _ (by repeat (first | (with_reducible assumption) | (with_reducible exact Below.refl _ _) | (with_reducible refine Below.drew ?_) | (with_reducible refine below_drewN ?_ _) | ((with_reducible refine Below.alloc ?_ ?_ _); rotate_left; (focus (first | exact Nat.le_refl _ | omega | (simp; done) | (simp; omega) | (simp at *; omega)))) | ((with_reducible refine Below.setCell ?_ ?_ _); rotate_left; (focus (first | exact Nat.le_refl _ | omega | (simp; done) | (simp; omega) | (simp at *; omega)))))))).mono ?_
  rw [HCI.out]
  rintro e w1 ⟨rfl, hbw1⟩
  have hzw1 := hbw1.size
  try simp at hzw1
  have kw1 : Below w.heap.size w w1 := Below.trans (by repeat (first | (with_reducible assumption) | (with_reducible exact Below.refl _ _) | (with_reducible refine Below.drew ?_) | (with_reducible refine below_drewN ?_ _) | ((with_reducible refine Below.alloc ?_ ?_ _); rotate_left; (focus (first | exact Nat.le_refl _ | omega | (simp; done) | (simp; omega) | (simp at *; omega)))) | ((with_reducible refine Below.setCell ?_ ?_ _); rotate_left; (focus (first | exact Nat.le_refl _ | omega | (simp; done) | (simp; omega) | (simp at *; omega)))))) (hbw1.mono (by (focus (first | exact Nat.le_refl _ | omega | (simp; done) | (simp; omega) | (simp at *; omega)))))
  have kzw1 := kw1.size
  go_wp2_with fail
  refine (drawn_any _).mono ?_
  rintro e w2 ⟨rfl, hbw2⟩
  have hzw2 := hbw2.size
  try simp at hzw2
  have kw2 : Below w.heap.size w w2 := Below.trans (by repeat (first | (with_reducible assumption) | (with_reducible exact Below.refl _ _) | (with_reducible refine Below.drew ?_) | (with_reducible refine below_drewN ?_ _) | ((with_reducible refine Below.alloc ?_ ?_ _); rotate_left; (focus (first | exact Nat.le_refl _ | omega | (simp; done) | (simp; omega) | (simp at *; omega)))) | ((with_reducible refine Below.setCell ?_ ?_ _); rotate_left; (focus (first | exact Nat.le_refl _ | omega | (simp; done) | (simp; omega) | (simp at *; omega)))))) (hbw2.mono (by (focus (first | exact Nat.le_refl _ | omega | (simp; done) | (simp; omega) | (simp at *; omega)))))
  have kzw2 := kw2.size
  go_wp2
  go_ret
  exact ⟨rfl, (by repeat (first | (with_reducible assumption) | (with_reducible exact Below.refl _ _) | (with_reducible refine Below.drew ?_) | (with_reducible refine below_drewN ?_ _) | ((with_reducible refine Below.alloc ?_ ?_ _); rotate_left; (focus (first | exact Nat.le_refl _ | omega | (simp; done) | (simp; omega) | (simp at *; omega)))) | ((with_reducible refine Below.setCell ?_ ?_ _); rotate_left; (focus (first | exact Nat.le_refl _ | omega | (simp; done) | (simp; omega) | (simp at *; omega))))))⟩

set_option maxHeartbeats 4000000 in
set_option maxRecDepth 100000 in
theorem RMO_x (A : Option Addr) (n c : Nat) (L R C s l t x y : Int) (p : Nat → Int) (w : World) (hn : n ≤ maxLen) (hp : Byt p) (hr : RdB w A n p) (hg : GridOk L R C n p) (hs : 3 ≤ s ∧ s ≤ 6) (hl : 2 ≤ l ∧ l ≤ 40) (ht : 2 ≤ t ∧ t ≤ 40)
    (hx : x < 0 ∨ 58 * s - 1 < x) :
    Calls Try.prog 4 #[gv L R C A n c, .int .i64 s, .int .i64 l, .int .i64 t, .int .i64 x, .int .i64 y] w fun e w' => e = .returned (.bool true) ∧ Below w.heap.size w w' := by
  have H2 := rd_later hr
  clear hr
  have HD : Hid (drawF (gridF L R C n p) s l t = (0, 0)) := Lib.hid (by rw [gridF_ok hg]; exact drawF_0 rfl hs hl ht)
  have t1 := inB_no hx
  clear hg hx
  go_enter Try.func4, Try.ntmps4
  go_wp2_with fail
  refine (DrawFault_any A n c L R C s l t p _ hn hp (H2.out _ (by repeat (first | (with_reducible assumption) | (with_reducible exact Below.refl _ _) | (with_reducible refine Below.drew ?_) | (with_reducible refine below_drewN ?_ _) | ((with_reducible refine Below.alloc ?_ ?_ _); rotate_left; (focus (first | exact Nat.le_refl _ | omega | (simp; done) | (simp; omega) | (simp at *; omega)))) | ((with_reducible refine Below.setCell ?_ ?_ _); rotate_left; (focus (first | exact Nat.le_refl _ | omega | (simp; done) | (simp; omega) | (simp at *; omega)))))))).mono ?_
  rw [HD.out]
  rintro e w1 ⟨rfl, hbw1⟩
  have hzw1 := hbw1.size
  try simp at hzw1
  have kw1 : Below w.heap.size w w1 := Below.trans (by repeat (first | (with_reducible assumption) | (with_reducible exact Below.refl _ _) | (with_reducible refine Below.drew ?_) | (with_reducible refine below_drewN ?_ _) | ((with_reducible refine Below.alloc ?_ ?_ _); rotate_left; (focus (first | exact Nat.le_refl _ | omega | (simp; done) | (simp; omega) | (simp at *; omega)))) | ((with_reducible refine Below.setCell ?_ ?_ _); rotate_left; (focus (first | exact Nat.le_refl _ | omega | (simp; done) | (simp; omega) | (simp at *; omega)))))) (hbw1.mono (by (focus (first | exact Nat.le_refl _ | omega | (simp; done) | (simp; omega) | (simp at *; omega)))))
  have kzw1 := kw1.size
  go_wp2_with fail
  refine (In_any _ _ _ _).mono ?_
  rintro e w' ⟨rfl, rfl⟩
  go_wp2_with fail
  refine (drawn_any _).mono ?_
  rintro e w2 ⟨rfl, hbw2⟩
  have hzw2 := hbw2.size
  try simp at hzw2
  have kw2 : Below w.heap.size w w2 := Below.trans (by repeat (first | (with_reducible assumption) | (with_reducible exact Below.refl _ _) | (with_reducible refine Below.drew ?_) | (with_reducible refine below_drewN ?_ _) | ((with_reducible refine Below.alloc ?_ ?_ _); rotate_left; (focus (first | exact Nat.le_refl _ | omega | (simp; done) | (simp; omega) | (simp at *; omega)))) | ((with_reducible refine Below.setCell ?_ ?_ _); rotate_left; (focus (first | exact Nat.le_refl _ | omega | (simp; done) | (simp; omega) | (simp at *; omega)))))) (hbw2.mono (by (focus (first | exact Nat.le_refl _ | omega | (simp; done) | (simp; omega) | (simp at *; omega)))))
  have kzw2 := kw2.size
  go_wp2
  go_ret
  exact ⟨rfl, (by repeat (first | (with_reducible assumption) | (with_reducible exact Below.refl _ _) | (with_reducible refine Below.drew ?_) | (with_reducible refine below_drewN ?_ _) | ((with_reducible refine Below.alloc ?_ ?_ _); rotate_left; (focus (first | exact Nat.le_refl _ | omega | (simp; done) | (simp; omega) | (simp at *; omega)))) | ((with_reducible refine Below.setCell ?_ ?_ _); rotate_left; (focus (first | exact Nat.le_refl _ | omega | (simp; done) | (simp; omega) | (simp at *; omega))))))⟩

set_option maxHeartbeats 4000000 in
set_option maxRecDepth 100000 in
theorem RMO_y (A : Option Addr) (n c : Nat) (L R C s l t x y : Int) (p : Nat → Int) (w : World) (hn : n ≤ maxLen) (hp : Byt p) (hr : RdB w A n p) (hg : GridOk L R C n p) (hs : 3 ≤ s ∧ s ≤ 6) (hl : 2 ≤ l ∧ l ≤ 40) (ht : 2 ≤ t ∧ t ≤ 40)
    (hx : 0 ≤ x ∧ x ≤ 58 * s - 1) (hy : y < 0 ∨ R * s - 1 < y) (hRs : 159 ≤ R * s ∧ R * s ≤ 510) :
    Calls Try.prog 4 #[gv L R C A n c, .int .i64 s, .int .i64 l, .int .i64 t, .int .i64 x, .int .i64 y] w fun e w' => e = .returned (.bool true) ∧ Below w.heap.size w w' := by
  have H2 := rd_later hr
  clear hr
  have HD : Hid (drawF (gridF L R C n p) s l t = (0, 0)) := Lib.hid (by rw [gridF_ok hg]; exact drawF_0 rfl hs hl ht)
  have t1 := inB_yes hx.1 hx.2
  have t2 := inB_no hy
  clear hg hx hy
  go_enter Try.func4, Try.ntmps4
  go_wp2_with fail
  refine (DrawFault_any A n c L R C s l t p _ hn hp (H2.out _ (by repeat (first | (with_reducible assumption) | (with_reducible exact Below.refl _ _) | (with_reducible refine Below.drew ?_) | (with_reducible refine below_drewN ?_ _) | ((with_reducible refine Below.alloc ?_ ?_ _); rotate_left; (focus (first | exact Nat.le_refl _ | omega | (simp; done) | (simp; omega) | (simp at *; omega)))) | ((with_reducible refine Below.setCell ?_ ?_ _); rotate_left; (focus (first | exact Nat.le_refl _ | omega | (simp; done) | (simp; omega) | (simp at *; omega)))))))).mono ?_
  rw [HD.out]
  rintro e w1 ⟨rfl, hbw1⟩
  have hzw1 := hbw1.size
  try simp at hzw1
  have kw1 : Below w.heap.size w w1 := Below.trans (by repeat (first | (with_reducible assumption) | (with_reducible exact Below.refl _ _) | (with_reducible refine Below.drew ?_) | (with_reducible refine below_drewN ?_ _) | ((with_reducible refine Below.alloc ?_ ?_ _); rotate_left; (focus (first | exact Nat.le_refl _ | omega | (simp; done) | (simp; omega) | (simp at *; omega)))) | ((with_reducible refine Below.setCell ?_ ?_ _); rotate_left; (focus (first | exact Nat.le_refl _ | omega | (simp; done) | (simp; omega) | (simp at *; omega)))))) (hbw1.mono (by (focus (first | exact Nat.le_refl _ | omega | (simp; done) | (simp; omega) | (simp at *; omega)))))
  have kzw1 := kw1.size
  have Bgn : Blk w1 (w.heap.size) 24 #[.int .i64 L, .int .i64 R, .int .i64 C, .slice A n c] := Blk.below (by repeat (first | (with_reducible assumption) | (with_reducible exact Blk.new _ _ _) | ((with_reducible refine Blk.new_at _ _ _ ?_); (focus (first | (simp; done) | omega))) | (with_reducible refine Blk.drew ?_) | (with_reducible refine Blk.drewN ?_ _) | (with_reducible refine Blk.alloc ?_ _) | ((with_reducible refine Blk.far ?_ ?_ _); rotate_left; (focus (first | (simp; done) | (simp; omega) | omega))))) hbw1 (by (focus (first | omega | (simp; done) | (simp; omega) | (simp at *; omega))))
  try clear cg fg
  try clear Bg
  have Bg := Bgn
  clear Bgn
  have cg := Bg.cell
  have fg := Bg.frozen
  have lgw1 := Bg.lt
  go_wp2_with fail
  refine (In_any _ _ _ _).mono ?_
  rintro e w' ⟨rfl, rfl⟩
  go_wp2_with fail
  refine (In_any _ _ _ _).mono ?_
  rintro e w' ⟨rfl, rfl⟩
  go_wp2_with fail
  refine (drawn_any _).mono ?_
  rintro e w2 ⟨rfl, hbw2⟩
  have hzw2 := hbw2.size
  try simp at hzw2
  have kw2 : Below w.heap.size w w2 := Below.trans (by repeat (first | (with_reducible assumption) | (with_reducible exact Below.refl _ _) | (with_reducible refine Below.drew ?_) | (with_reducible refine below_drewN ?_ _) | ((with_reducible refine Below.alloc ?_ ?_ _); rotate_left; (focus (first | exact Nat.le_refl _ | omega | (simp; done) | (simp; omega) | (simp at *; omega)))) | ((with_reducible refine Below.setCell ?_ ?_ _); rotate_left; (focus (first | exact Nat.le_refl _ | omega | (simp; done) | (simp; omega) | (simp at *; omega)))))) (hbw2.mono (by (focus (first | exact Nat.le_refl _ | omega | (simp; done) | (simp; omega) | (simp at *; omega)))))
  have kzw2 := kw2.size
  go_wp2
  go_ret
  exact ⟨rfl, (by repeat (first | (with_reducible assumption) | (with_reducible exact Below.refl _ _) | (with_reducible refine Below.drew ?_) | (with_reducible refine below_drewN ?_ _) | ((with_reducible refine Below.alloc ?_ ?_ _); rotate_left; (focus (first | exact Nat.le_refl _ | omega | (simp; done) | (simp; omega) | (simp at *; omega)))) | ((with_reducible refine Below.setCell ?_ ?_ _); rotate_left; (focus (first | exact Nat.le_refl _ | omega | (simp; done) | (simp; omega) | (simp at *; omega))))))⟩

theorem px_draw {L R s l t x y : Int} {p : Nat → Int} (hs : 3 ≤ s ∧ s ≤ 6) (hl : 2 ≤ l ∧ l ≤ 40) (ht : 2 ≤ t ∧ t ≤ 40) (hx : 0 ≤ x ∧ x ≤ 58 * s - 1) (hy : 0 ≤ y ∧ y ≤ R * s - 1) :
    px (58 * s + 2 * l) (R * s + 2 * t) (dpx L R s l t (58 * s + 2 * l) p) (l + x) (t + y) = shadeOf L (p (58 * (y / s) + x / s).toNat) := by
  rw [px_in (by omega) (by omega)]
  have h0 := Int.mul_nonneg (show 0 ≤ t + y by omega) (show 0 ≤ 58 * s + 2 * l by omega)
  exact dpx_in (by omega) (by omega) ⟨by omega, by omega⟩ ⟨by omega, by omega⟩ (by rw [Int.toNat_of_nonneg (by omega), Int.add_comm t y]; omega)

theorem Draw_at (A : Option Addr) (n c N : Nat) (L R C s l t W H : Int) (p : Nat → Int) (w : World) (hg : GridOk L R C n p) (hp : Byt p) (hr : RdB w A n p) (hs : 3 ≤ s ∧ s ≤ 6) (hl : 2 ≤ l ∧ l ≤ 40) (ht : 2 ≤ t ∧ t ≤ 40)
    (hW : W = 58 * s + 2 * l) (hH : H = R * s + 2 * t) (hN : (N : Int) = W * H) :
    Calls Try.prog 25 #[gv L R C A n c, .int .i64 s, .int .i64 l, .int .i64 t] w fun e w' => ∃ g, e = .returned (.tuple #[iv W H (some ⟨g, 0, none⟩) N N, fv 0 0]) ∧ w.heap.size ≤ g ∧
      w'.rowIs g 5 N (fun k => .int .u8 (dpx L R s l t W p k)) ∧ Below w.heap.size w w' := by
  subst hW hH; exact Draw_ok A n c N L R C s l t p w hg hp hr hs hl ht hN

set_option maxHeartbeats 8000000 in
set_option maxRecDepth 100000 in
theorem RMO_ok (A : Option Addr) (n c N M : Nat) (L R C s l t x y : Int) (p : Nat → Int) (w : World) (hn : n ≤ maxLen) (hp : Byt p) (hr : RdB w A n p) (hg : GridOk L R C n p) (hs : 3 ≤ s ∧ s ≤ 6) (hl : 2 ≤ l ∧ l ≤ 40) (ht : 2 ≤ t ∧ t ≤ 40)
    (hx : 0 ≤ x ∧ x ≤ 58 * s - 1) (hy : 0 ≤ y ∧ y ≤ R * s - 1) (hR : 53 ≤ R ∧ R ≤ 85) (hN : (N : Int) = (58 * s + 2 * l) * (R * s + 2 * t)) (hM : (M : Int) = (58 * s + 4) * (R * s + 4)) :
    Calls Try.prog 4 #[gv L R C A n c, .int .i64 s, .int .i64 l, .int .i64 t, .int .i64 x, .int .i64 y] w fun e w' => e = .returned (.bool true) ∧ Below w.heap.size w w' := by
  have H2 := rd_later hr
  clear hr
  have HD : Hid (drawF (gridF L R C n p) s l t = (0, 0)) := Lib.hid (by rw [gridF_ok hg]; exact drawF_0 rfl hs hl ht)
  obtain ⟨d1, d2, d3, d4, d5, d6⟩ := draw_bd hs hl ht hR
  have hI : ImgOk (58 * s + 2 * l) (R * s + 2 * t) N := ⟨by omega, by omega, by omega, by omega, hN⟩
  have hJ : ImgOk (58 * s + 4) (R * s + 4) M := ⟨by omega, by omega, by omega, by omega, hM⟩
  have HI := Lib.hid hI
  have HJ := Lib.hid hJ
  have FI := Lib.hid (imgF_ok hI)
  have FJ := Lib.hid (imgF_ok hJ)
  have PI := Lib.hid (px_draw (L := L) (p := p) hs hl ht hx hy)
  have PJ : Hid (px (58 * s + 4) (R * s + 4) (dpx L R s 2 2 (58 * s + 4) p) (2 + x) (2 + y) = shadeOf L (p (58 * (y / s) + x / s).toNat)) := Lib.hid (px_draw (L := L) (p := p) hs (by decide : (2 : Int) ≤ 2 ∧ (2 : Int) ≤ 40) (by decide : (2 : Int) ≤ 2 ∧ (2 : Int) ≤ 40) hx hy)
  have t1 := inB_yes hx.1 hx.2
  have t2 := inB_yes hy.1 hy.2
  have HG := Lib.hid hg
  have HN := Lib.hid hN
  have HM := Lib.hid hM
  clear hg hI hJ hN hM d5 d6
  go_enter Try.func4, Try.ntmps4
  go_wp2_with fail
  refine (DrawFault_any A n c L R C s l t p _ hn hp (H2.out _ (by repeat (first | (with_reducible assumption) | (with_reducible exact Below.refl _ _) | (with_reducible refine Below.drew ?_) | (with_reducible refine below_drewN ?_ _) | ((with_reducible refine Below.alloc ?_ ?_ _); rotate_left; (focus (first | exact Nat.le_refl _ | omega | (simp; done) | (simp; omega) | (simp at *; omega)))) | ((with_reducible refine Below.setCell ?_ ?_ _); rotate_left; (focus (first | exact Nat.le_refl _ | omega | (simp; done) | (simp; omega) | (simp at *; omega)))))))).mono ?_
  rw [HD.out]
  rintro e w1 ⟨rfl, hbw1⟩
  have hzw1 := hbw1.size
  try simp at hzw1
  have kw1 : Below w.heap.size w w1 := Below.trans (by repeat (first | (with_reducible assumption) | (with_reducible exact Below.refl _ _) | (with_reducible refine Below.drew ?_) | (with_reducible refine below_drewN ?_ _) | ((with_reducible refine Below.alloc ?_ ?_ _); rotate_left; (focus (first | exact Nat.le_refl _ | omega | (simp; done) | (simp; omega) | (simp at *; omega)))) | ((with_reducible refine Below.setCell ?_ ?_ _); rotate_left; (focus (first | exact Nat.le_refl _ | omega | (simp; done) | (simp; omega) | (simp at *; omega)))))) (hbw1.mono (by (focus (first | exact Nat.le_refl _ | omega | (simp; done) | (simp; omega) | (simp at *; omega)))))
  have kzw1 := kw1.size
  have Bgn : Blk w1 (w.heap.size) 24 #[.int .i64 L, .int .i64 R, .int .i64 C, .slice A n c] := Blk.below (by repeat (first | (with_reducible assumption) | (with_reducible exact Blk.new _ _ _) | ((with_reducible refine Blk.new_at _ _ _ ?_); (focus (first | (simp; done) | omega))) | (with_reducible refine Blk.drew ?_) | (with_reducible refine Blk.drewN ?_ _) | (with_reducible refine Blk.alloc ?_ _) | ((with_reducible refine Blk.far ?_ ?_ _); rotate_left; (focus (first | (simp; done) | (simp; omega) | omega))))) hbw1 (by (focus (first | omega | (simp; done) | (simp; omega) | (simp at *; omega))))
  try clear cg fg
  try clear Bg
  have Bg := Bgn
  clear Bgn
  have cg := Bg.cell
  have fg := Bg.frozen
  have lgw1 := Bg.lt
  go_wp2_with fail
  refine (In_any _ _ _ _).mono ?_
  rintro e w' ⟨rfl, rfl⟩
  go_wp2_with fail
  refine (In_any _ _ _ _).mono ?_
  rintro e w' ⟨rfl, rfl⟩
  go_wp2_with fail
  refine (Draw_ok A n c N L R C s l t p _ HG.out hp (H2.out _ (by repeat (first | (with_reducible assumption) | (with_reducible exact Below.refl _ _) | (with_reducible refine Below.drew ?_) | (with_reducible refine below_drewN ?_ _) | ((with_reducible refine Below.alloc ?_ ?_ _); rotate_left; (focus (first | exact Nat.le_refl _ | omega | (simp; done) | (simp; omega) | (simp at *; omega)))) | ((with_reducible refine Below.setCell ?_ ?_ _); rotate_left; (focus (first | exact Nat.le_refl _ | omega | (simp; done) | (simp; omega) | (simp at *; omega))))))) hs hl ht HN.out).mono ?_
  rintro e w2 ⟨g0, rfl, hg0, hrow, hbw2⟩
  have H3 := rd_later (Rd.of_row hrow)
  clear hrow
  have hzw2 := hbw2.size
  try simp at hzw2
  have kw2 : Below w.heap.size w w2 := Below.trans (by repeat (first | (with_reducible assumption) | (with_reducible exact Below.refl _ _) | (with_reducible refine Below.drew ?_) | (with_reducible refine below_drewN ?_ _) | ((with_reducible refine Below.alloc ?_ ?_ _); rotate_left; (focus (first | exact Nat.le_refl _ | omega | (simp; done) | (simp; omega) | (simp at *; omega)))) | ((with_reducible refine Below.setCell ?_ ?_ _); rotate_left; (focus (first | exact Nat.le_refl _ | omega | (simp; done) | (simp; omega) | (simp at *; omega)))))) (hbw2.mono (by (focus (first | exact Nat.le_refl _ | omega | (simp; done) | (simp; omega) | (simp at *; omega)))))
  have kzw2 := kw2.size
  have Bgn : Blk w2 (w.heap.size) 24 #[.int .i64 L, .int .i64 R, .int .i64 C, .slice A n c] := Blk.below (by repeat (first | (with_reducible assumption) | (with_reducible exact Blk.new _ _ _) | ((with_reducible refine Blk.new_at _ _ _ ?_); (focus (first | (simp; done) | omega))) | (with_reducible refine Blk.drew ?_) | (with_reducible refine Blk.drewN ?_ _) | (with_reducible refine Blk.alloc ?_ _) | ((with_reducible refine Blk.far ?_ ?_ _); rotate_left; (focus (first | (simp; done) | (simp; omega) | omega))))) hbw2 (by (focus (first | omega | (simp; done) | (simp; omega) | (simp at *; omega))))
  try clear cg fg
  try clear Bg
  have Bg := Bgn
  clear Bgn
  have cg := Bg.cell
  have fg := Bg.frozen
  have lgw2 := Bg.lt
  go_wp2_with fail
  refine (Draw_at A n c M L R C s 2 2 (58 * s + 4) (R * s + 4) p _ HG.out hp (H2.out _ (by repeat (first | (with_reducible assumption) | (with_reducible exact Below.refl _ _) | (with_reducible refine Below.drew ?_) | (with_reducible refine below_drewN ?_ _) | ((with_reducible refine Below.alloc ?_ ?_ _); rotate_left; (focus (first | exact Nat.le_refl _ | omega | (simp; done) | (simp; omega) | (simp at *; omega)))) | ((with_reducible refine Below.setCell ?_ ?_ _); rotate_left; (focus (first | exact Nat.le_refl _ | omega | (simp; done) | (simp; omega) | (simp at *; omega))))))) hs (by decide) (by decide) (by omega) (by omega) HM.out).mono ?_
  rintro e w3 ⟨g1, rfl, hg1, hrow, hbw3⟩
  have H4 := rd_later (Rd.of_row hrow)
  clear hrow
  have hzw3 := hbw3.size
  try simp at hzw3
  have kw3 : Below w.heap.size w w3 := Below.trans (by repeat (first | (with_reducible assumption) | (with_reducible exact Below.refl _ _) | (with_reducible refine Below.drew ?_) | (with_reducible refine below_drewN ?_ _) | ((with_reducible refine Below.alloc ?_ ?_ _); rotate_left; (focus (first | exact Nat.le_refl _ | omega | (simp; done) | (simp; omega) | (simp at *; omega)))) | ((with_reducible refine Below.setCell ?_ ?_ _); rotate_left; (focus (first | exact Nat.le_refl _ | omega | (simp; done) | (simp; omega) | (simp at *; omega)))))) (hbw3.mono (by (focus (first | exact Nat.le_refl _ | omega | (simp; done) | (simp; omega) | (simp at *; omega)))))
  have kzw3 := kw3.size
  have Bxn : Blk w3 (w2.heap.size) 26 #[.int .i64 (58 * s + 2 * l), .int .i64 (R * s + 2 * t), .slice (some ⟨g0, 0, none⟩) N N] := Blk.below (by repeat (first | (with_reducible assumption) | (with_reducible exact Blk.new _ _ _) | ((with_reducible refine Blk.new_at _ _ _ ?_); (focus (first | (simp; done) | omega))) | (with_reducible refine Blk.drew ?_) | (with_reducible refine Blk.drewN ?_ _) | (with_reducible refine Blk.alloc ?_ _) | ((with_reducible refine Blk.far ?_ ?_ _); rotate_left; (focus (first | (simp; done) | (simp; omega) | omega))))) hbw3 (by (focus (first | omega | (simp; done) | (simp; omega) | (simp at *; omega))))
  try clear cx fx
  try clear Bx
  have Bx := Bxn
  clear Bxn
  have cx := Bx.cell
  have fx := Bx.frozen
  have lxw3 := Bx.lt
  have Byn : Blk w3 (w2.heap.size + 1) 28 #[.int .i64 0, .int .i64 0] := Blk.below (by repeat (first | (with_reducible assumption) | (with_reducible exact Blk.new _ _ _) | ((with_reducible refine Blk.new_at _ _ _ ?_); (focus (first | (simp; done) | omega))) | (with_reducible refine Blk.drew ?_) | (with_reducible refine Blk.drewN ?_ _) | (with_reducible refine Blk.alloc ?_ _) | ((with_reducible refine Blk.far ?_ ?_ _); rotate_left; (focus (first | (simp; done) | (simp; omega) | omega))))) hbw3 (by (focus (first | omega | (simp; done) | (simp; omega) | (simp at *; omega))))
  try clear cy fy
  try clear By
  have By := Byn
  clear Byn
  have cy := By.cell
  have fy := By.frozen
  have lyw3 := By.lt
  have iw3 : Below w2.heap.size w2 w3 := Below.trans (by repeat (first | (with_reducible assumption) | (with_reducible exact Below.refl _ _) | (with_reducible refine Below.drew ?_) | (with_reducible refine below_drewN ?_ _) | ((with_reducible refine Below.alloc ?_ ?_ _); rotate_left; (focus (first | exact Nat.le_refl _ | omega | (simp; done) | (simp; omega) | (simp at *; omega)))) | ((with_reducible refine Below.setCell ?_ ?_ _); rotate_left; (focus (first | exact Nat.le_refl _ | omega | (simp; done) | (simp; omega) | (simp at *; omega)))))) (hbw3.mono (by (focus (first | exact Nat.le_refl _ | omega | (simp; done) | (simp; omega) | (simp at *; omega)))))
  clear cg fg Bg
  go_wp2_with fail
  refine (ImageFault_any _ N N _ _ _).mono ?_
  rw [FI.out]
  rintro e w4 ⟨rfl, hbw4⟩
  have hzw4 := hbw4.size
  try simp at hzw4
  have kw4 : Below w.heap.size w w4 := Below.trans (by repeat (first | (with_reducible assumption) | (with_reducible exact Below.refl _ _) | (with_reducible refine Below.drew ?_) | (with_reducible refine below_drewN ?_ _) | ((with_reducible refine Below.alloc ?_ ?_ _); rotate_left; (focus (first | exact Nat.le_refl _ | omega | (simp; done) | (simp; omega) | (simp at *; omega)))) | ((with_reducible refine Below.setCell ?_ ?_ _); rotate_left; (focus (first | exact Nat.le_refl _ | omega | (simp; done) | (simp; omega) | (simp at *; omega)))))) (hbw4.mono (by (focus (first | exact Nat.le_refl _ | omega | (simp; done) | (simp; omega) | (simp at *; omega)))))
  have kzw4 := kw4.size
  have Bxn : Blk w4 (w2.heap.size) 26 #[.int .i64 (58 * s + 2 * l), .int .i64 (R * s + 2 * t), .slice (some ⟨g0, 0, none⟩) N N] := Blk.below (by repeat (first | (with_reducible assumption) | (with_reducible exact Blk.new _ _ _) | ((with_reducible refine Blk.new_at _ _ _ ?_); (focus (first | (simp; done) | omega))) | (with_reducible refine Blk.drew ?_) | (with_reducible refine Blk.drewN ?_ _) | (with_reducible refine Blk.alloc ?_ _) | ((with_reducible refine Blk.far ?_ ?_ _); rotate_left; (focus (first | (simp; done) | (simp; omega) | omega))))) hbw4 (by (focus (first | omega | (simp; done) | (simp; omega) | (simp at *; omega))))
  try clear cx fx
  try clear Bx
  have Bx := Bxn
  clear Bxn
  have cx := Bx.cell
  have fx := Bx.frozen
  have lxw4 := Bx.lt
  have Bzn : Blk w4 (w3.heap.size) 26 #[.int .i64 (58 * s + 4), .int .i64 (R * s + 4), .slice (some ⟨g1, 0, none⟩) M M] := Blk.below (by repeat (first | (with_reducible assumption) | (with_reducible exact Blk.new _ _ _) | ((with_reducible refine Blk.new_at _ _ _ ?_); (focus (first | (simp; done) | omega))) | (with_reducible refine Blk.drew ?_) | (with_reducible refine Blk.drewN ?_ _) | (with_reducible refine Blk.alloc ?_ _) | ((with_reducible refine Blk.far ?_ ?_ _); rotate_left; (focus (first | (simp; done) | (simp; omega) | omega))))) hbw4 (by (focus (first | omega | (simp; done) | (simp; omega) | (simp at *; omega))))
  try clear cz fz
  try clear Bz
  have Bz := Bzn
  clear Bzn
  have cz := Bz.cell
  have fz := Bz.frozen
  have lzw4 := Bz.lt
  have iw4 : Below w2.heap.size w2 w4 := Below.trans (by repeat (first | (with_reducible assumption) | (with_reducible exact Below.refl _ _) | (with_reducible refine Below.drew ?_) | (with_reducible refine below_drewN ?_ _) | ((with_reducible refine Below.alloc ?_ ?_ _); rotate_left; (focus (first | exact Nat.le_refl _ | omega | (simp; done) | (simp; omega) | (simp at *; omega)))) | ((with_reducible refine Below.setCell ?_ ?_ _); rotate_left; (focus (first | exact Nat.le_refl _ | omega | (simp; done) | (simp; omega) | (simp at *; omega)))))) (hbw4.mono (by (focus (first | exact Nat.le_refl _ | omega | (simp; done) | (simp; omega) | (simp at *; omega)))))
  have jw4 : Below w3.heap.size w3 w4 := Below.trans (by repeat (first | (with_reducible assumption) | (with_reducible exact Below.refl _ _) | (with_reducible refine Below.drew ?_) | (with_reducible refine below_drewN ?_ _) | ((with_reducible refine Below.alloc ?_ ?_ _); rotate_left; (focus (first | exact Nat.le_refl _ | omega | (simp; done) | (simp; omega) | (simp at *; omega)))) | ((with_reducible refine Below.setCell ?_ ?_ _); rotate_left; (focus (first | exact Nat.le_refl _ | omega | (simp; done) | (simp; omega) | (simp at *; omega)))))) (hbw4.mono (by (focus (first | exact Nat.le_refl _ | omega | (simp; done) | (simp; omega) | (simp at *; omega)))))
  go_wp2_with fail
  refine (ImageFault_any _ M M _ _ _).mono ?_
  rw [FJ.out]
  rintro e w5 ⟨rfl, hbw5⟩
  have hzw5 := hbw5.size
  try simp at hzw5
  have kw5 : Below w.heap.size w w5 := Below.trans (by repeat (first | (with_reducible assumption) | (with_reducible exact Below.refl _ _) | (with_reducible refine Below.drew ?_) | (with_reducible refine below_drewN ?_ _) | ((with_reducible refine Below.alloc ?_ ?_ _); rotate_left; (focus (first | exact Nat.le_refl _ | omega | (simp; done) | (simp; omega) | (simp at *; omega)))) | ((with_reducible refine Below.setCell ?_ ?_ _); rotate_left; (focus (first | exact Nat.le_refl _ | omega | (simp; done) | (simp; omega) | (simp at *; omega)))))) (hbw5.mono (by (focus (first | exact Nat.le_refl _ | omega | (simp; done) | (simp; omega) | (simp at *; omega)))))
  have kzw5 := kw5.size
  have Bxn : Blk w5 (w2.heap.size) 26 #[.int .i64 (58 * s + 2 * l), .int .i64 (R * s + 2 * t), .slice (some ⟨g0, 0, none⟩) N N] := Blk.below (by repeat (first | (with_reducible assumption) | (with_reducible exact Blk.new _ _ _) | ((with_reducible refine Blk.new_at _ _ _ ?_); (focus (first | (simp; done) | omega))) | (with_reducible refine Blk.drew ?_) | (with_reducible refine Blk.drewN ?_ _) | (with_reducible refine Blk.alloc ?_ _) | ((with_reducible refine Blk.far ?_ ?_ _); rotate_left; (focus (first | (simp; done) | (simp; omega) | omega))))) hbw5 (by (focus (first | omega | (simp; done) | (simp; omega) | (simp at *; omega))))
  try clear cx fx
  try clear Bx
  have Bx := Bxn
  clear Bxn
  have cx := Bx.cell
  have fx := Bx.frozen
  have lxw5 := Bx.lt
  have Bzn : Blk w5 (w3.heap.size) 26 #[.int .i64 (58 * s + 4), .int .i64 (R * s + 4), .slice (some ⟨g1, 0, none⟩) M M] := Blk.below (by repeat (first | (with_reducible assumption) | (with_reducible exact Blk.new _ _ _) | ((with_reducible refine Blk.new_at _ _ _ ?_); (focus (first | (simp; done) | omega))) | (with_reducible refine Blk.drew ?_) | (with_reducible refine Blk.drewN ?_ _) | (with_reducible refine Blk.alloc ?_ _) | ((with_reducible refine Blk.far ?_ ?_ _); rotate_left; (focus (first | (simp; done) | (simp; omega) | omega))))) hbw5 (by (focus (first | omega | (simp; done) | (simp; omega) | (simp at *; omega))))
  try clear cz fz
  try clear Bz
  have Bz := Bzn
  clear Bzn
  have cz := Bz.cell
  have fz := Bz.frozen
  have lzw5 := Bz.lt
  have iw5 : Below w2.heap.size w2 w5 := Below.trans (by repeat (first | (with_reducible assumption) | (with_reducible exact Below.refl _ _) | (with_reducible refine Below.drew ?_) | (with_reducible refine below_drewN ?_ _) | ((with_reducible refine Below.alloc ?_ ?_ _); rotate_left; (focus (first | exact Nat.le_refl _ | omega | (simp; done) | (simp; omega) | (simp at *; omega)))) | ((with_reducible refine Below.setCell ?_ ?_ _); rotate_left; (focus (first | exact Nat.le_refl _ | omega | (simp; done) | (simp; omega) | (simp at *; omega)))))) (hbw5.mono (by (focus (first | exact Nat.le_refl _ | omega | (simp; done) | (simp; omega) | (simp at *; omega)))))
  have jw5 : Below w3.heap.size w3 w5 := Below.trans (by repeat (first | (with_reducible assumption) | (with_reducible exact Below.refl _ _) | (with_reducible refine Below.drew ?_) | (with_reducible refine below_drewN ?_ _) | ((with_reducible refine Below.alloc ?_ ?_ _); rotate_left; (focus (first | exact Nat.le_refl _ | omega | (simp; done) | (simp; omega) | (simp at *; omega)))) | ((with_reducible refine Below.setCell ?_ ?_ _); rotate_left; (focus (first | exact Nat.le_refl _ | omega | (simp; done) | (simp; omega) | (simp at *; omega)))))) (hbw5.mono (by (focus (first | exact Nat.le_refl _ | omega | (simp; done) | (simp; omega) | (simp at *; omega)))))
  have HS : Hid (∀ X, Below w5.heap.size w5 X → X.cell? ⟨w2.heap.size, 0, none⟩ = some (.int .i64 (58 * s + 2 * l)) ∧ X.cell? ⟨w2.heap.size, 1, none⟩ = some (.int .i64 (R * s + 2 * t)) ∧ X.cell? ⟨w2.heap.size, 2, none⟩ = some (.slice (some ⟨g0, 0, none⟩) N N) ∧
      X.cell? ⟨w3.heap.size, 0, none⟩ = some (.int .i64 (58 * s + 4)) ∧ X.cell? ⟨w3.heap.size, 1, none⟩ = some (.int .i64 (R * s + 4)) ∧ X.cell? ⟨w3.heap.size, 2, none⟩ = some (.slice (some ⟨g1, 0, none⟩) M M)) :=
    Lib.hid fun X h => ⟨(h.cell (p := ⟨w2.heap.size, 0, none⟩) lxw5).trans (cx 0), (h.cell (p := ⟨w2.heap.size, 1, none⟩) lxw5).trans (cx 1), (h.cell (p := ⟨w2.heap.size, 2, none⟩) lxw5).trans (cx 2),
      (h.cell (p := ⟨w3.heap.size, 0, none⟩) lzw5).trans (cz 0), (h.cell (p := ⟨w3.heap.size, 1, none⟩) lzw5).trans (cz 1), (h.cell (p := ⟨w3.heap.size, 2, none⟩) lzw5).trans (cz 2)⟩
  have u1 : IntKind.i64.wrap (l + x) = l + x := IntWalk.i64_in _ (by omega)
  have u2 : IntKind.i64.wrap (t + y) = t + y := IntWalk.i64_in _ (by omega)
  have u3 : IntKind.i64.wrap (2 + x) = 2 + x := IntWalk.i64_in _ (by omega)
  have u4 : IntKind.i64.wrap (2 + y) = 2 + y := IntWalk.i64_in _ (by omega)
  have u5 : IntKind.i64.wrap (58 * s + 2 * l - (58 * s + 4)) = 2 * l - 4 := by rw [IntWalk.i64_in _ (by omega)]; omega
  have u6 : IntKind.i64.wrap (R * s + 2 * t - (R * s + 4)) = 2 * t - 4 := by rw [IntWalk.i64_in _ (by omega)]; omega
  have u7 : IntKind.i64.wrap (2 * l) = 2 * l := IntWalk.i64_in _ (by omega)
  have u8 : IntKind.i64.wrap (2 * t) = 2 * t := IntWalk.i64_in _ (by omega)
  have u9 : IntKind.i64.wrap (2 * l - 4) = 2 * l - 4 := IntWalk.i64_in _ (by omega)
  have u10 : IntKind.i64.wrap (2 * t - 4) = 2 * t - 4 := IntWalk.i64_in _ (by omega)
  clear hbw1 hbw2 hbw3 hbw4 hbw5 By cy fy Bx Bz cx fx cz fz hx hy t1 t2
  go_wp2_with fail
  go_region_held3 (fun X => X.cell? ⟨w2.heap.size, 0, none⟩ = some (.int .i64 (58 * s + 2 * l)) ∧ X.cell? ⟨w2.heap.size, 1, none⟩ = some (.int .i64 (R * s + 2 * t)) ∧ X.cell? ⟨w2.heap.size, 2, none⟩ = some (.slice (some ⟨g0, 0, none⟩) N N) ∧
      X.cell? ⟨w3.heap.size, 0, none⟩ = some (.int .i64 (58 * s + 4)) ∧ X.cell? ⟨w3.heap.size, 1, none⟩ = some (.int .i64 (R * s + 4)) ∧ X.cell? ⟨w3.heap.size, 2, none⟩ = some (.slice (some ⟨g1, 0, none⟩) M M))
    (exact HS.out _ (by repeat (first | (with_reducible assumption) | (with_reducible exact Below.refl _ _) | (with_reducible refine Below.drew ?_) | (with_reducible refine below_drewN ?_ _) | ((with_reducible refine Below.alloc ?_ ?_ _); rotate_left; (focus (first | exact Nat.le_refl _ | omega | (simp; done) | (simp; omega) | (simp at *; omega)))) | ((with_reducible refine Below.setCell ?_ ?_ _); rotate_left; (focus (first | exact Nat.le_refl _ | omega | (simp; done) | (simp; omega) | (simp at *; omega)))))))
    (first
      | (go_at_call_of 33 (Value.int IntKind.i64 (l + x))
         refine (Pixel_eq _ N N _ _ _ _ _ _ _ HI.out (H3.out _ (by repeat (first | (with_reducible assumption) | (with_reducible exact Below.refl _ _) | (with_reducible refine Below.drew ?_) | (with_reducible refine below_drewN ?_ _) | ((with_reducible refine Below.alloc ?_ ?_ _); rotate_left; (focus (first | exact Nat.le_refl _ | omega | (simp; done) | (simp; omega) | (simp at *; omega)))) | ((with_reducible refine Below.setCell ?_ ?_ _); rotate_left; (focus (first | exact Nat.le_refl _ | omega | (simp; done) | (simp; omega) | (simp at *; omega))))))) PI.out).mono ?_
         rintro e wa ⟨rfl, hbwa⟩
         have hzwa := hbwa.size
         try simp at hzwa
         have kwa : Below w.heap.size w wa := Below.trans (by repeat (first | (with_reducible assumption) | (with_reducible exact Below.refl _ _) | (with_reducible refine Below.drew ?_) | (with_reducible refine below_drewN ?_ _) | ((with_reducible refine Below.alloc ?_ ?_ _); rotate_left; (focus (first | exact Nat.le_refl _ | omega | (simp; done) | (simp; omega) | (simp at *; omega)))) | ((with_reducible refine Below.setCell ?_ ?_ _); rotate_left; (focus (first | exact Nat.le_refl _ | omega | (simp; done) | (simp; omega) | (simp at *; omega)))))) (hbwa.mono (by (focus (first | exact Nat.le_refl _ | omega | (simp; done) | (simp; omega) | (simp at *; omega)))))
         have kzwa := kwa.size
         have jwa : Below w5.heap.size w5 wa := Below.trans (by repeat (first | (with_reducible assumption) | (with_reducible exact Below.refl _ _) | (with_reducible refine Below.drew ?_) | (with_reducible refine below_drewN ?_ _) | ((with_reducible refine Below.alloc ?_ ?_ _); rotate_left; (focus (first | exact Nat.le_refl _ | omega | (simp; done) | (simp; omega) | (simp at *; omega)))) | ((with_reducible refine Below.setCell ?_ ?_ _); rotate_left; (focus (first | exact Nat.le_refl _ | omega | (simp; done) | (simp; omega) | (simp at *; omega)))))) (hbwa.mono (by (focus (first | exact Nat.le_refl _ | omega | (simp; done) | (simp; omega) | (simp at *; omega)))))
         have iwa : Below w3.heap.size w3 wa := Below.trans (by repeat (first | (with_reducible assumption) | (with_reducible exact Below.refl _ _) | (with_reducible refine Below.drew ?_) | (with_reducible refine below_drewN ?_ _) | ((with_reducible refine Below.alloc ?_ ?_ _); rotate_left; (focus (first | exact Nat.le_refl _ | omega | (simp; done) | (simp; omega) | (simp at *; omega)))) | ((with_reducible refine Below.setCell ?_ ?_ _); rotate_left; (focus (first | exact Nat.le_refl _ | omega | (simp; done) | (simp; omega) | (simp at *; omega)))))) (hbwa.mono (by (focus (first | exact Nat.le_refl _ | omega | (simp; done) | (simp; omega) | (simp at *; omega))))))
      | (go_at_call 33
         refine (Pixel_eq _ M M _ _ _ _ _ _ _ HJ.out (H4.out _ (by repeat (first | (with_reducible assumption) | (with_reducible exact Below.refl _ _) | (with_reducible refine Below.drew ?_) | (with_reducible refine below_drewN ?_ _) | ((with_reducible refine Below.alloc ?_ ?_ _); rotate_left; (focus (first | exact Nat.le_refl _ | omega | (simp; done) | (simp; omega) | (simp at *; omega)))) | ((with_reducible refine Below.setCell ?_ ?_ _); rotate_left; (focus (first | exact Nat.le_refl _ | omega | (simp; done) | (simp; omega) | (simp at *; omega))))))) PJ.out).mono ?_
         rintro e wb ⟨rfl, hbwb⟩
         have hzwb := hbwb.size
         try simp at hzwb
         have kwb : Below w.heap.size w wb := Below.trans (by repeat (first | (with_reducible assumption) | (with_reducible exact Below.refl _ _) | (with_reducible refine Below.drew ?_) | (with_reducible refine below_drewN ?_ _) | ((with_reducible refine Below.alloc ?_ ?_ _); rotate_left; (focus (first | exact Nat.le_refl _ | omega | (simp; done) | (simp; omega) | (simp at *; omega)))) | ((with_reducible refine Below.setCell ?_ ?_ _); rotate_left; (focus (first | exact Nat.le_refl _ | omega | (simp; done) | (simp; omega) | (simp at *; omega)))))) (hbwb.mono (by (focus (first | exact Nat.le_refl _ | omega | (simp; done) | (simp; omega) | (simp at *; omega)))))
         have kzwb := kwb.size
         have jwb : Below w5.heap.size w5 wb := Below.trans (by repeat (first | (with_reducible assumption) | (with_reducible exact Below.refl _ _) | (with_reducible refine Below.drew ?_) | (with_reducible refine below_drewN ?_ _) | ((with_reducible refine Below.alloc ?_ ?_ _); rotate_left; (focus (first | exact Nat.le_refl _ | omega | (simp; done) | (simp; omega) | (simp at *; omega)))) | ((with_reducible refine Below.setCell ?_ ?_ _); rotate_left; (focus (first | exact Nat.le_refl _ | omega | (simp; done) | (simp; omega) | (simp at *; omega)))))) (hbwb.mono (by (focus (first | exact Nat.le_refl _ | omega | (simp; done) | (simp; omega) | (simp at *; omega))))))
      | (go_at_call 30
         refine (drawn_any _).mono ?_
         rintro e wf ⟨rfl, hbwf⟩
         have hzwf := hbwf.size
         try simp at hzwf
         have kwf : Below w.heap.size w wf := Below.trans (by repeat (first | (with_reducible assumption) | (with_reducible exact Below.refl _ _) | (with_reducible refine Below.drew ?_) | (with_reducible refine below_drewN ?_ _) | ((with_reducible refine Below.alloc ?_ ?_ _); rotate_left; (focus (first | exact Nat.le_refl _ | omega | (simp; done) | (simp; omega) | (simp at *; omega)))) | ((with_reducible refine Below.setCell ?_ ?_ _); rotate_left; (focus (first | exact Nat.le_refl _ | omega | (simp; done) | (simp; omega) | (simp at *; omega)))))) (hbwf.mono (by (focus (first | exact Nat.le_refl _ | omega | (simp; done) | (simp; omega) | (simp at *; omega)))))
         have kzwf := kwf.size
         have jwf : Below w5.heap.size w5 wf := Below.trans (by repeat (first | (with_reducible assumption) | (with_reducible exact Below.refl _ _) | (with_reducible refine Below.drew ?_) | (with_reducible refine below_drewN ?_ _) | ((with_reducible refine Below.alloc ?_ ?_ _); rotate_left; (focus (first | exact Nat.le_refl _ | omega | (simp; done) | (simp; omega) | (simp at *; omega)))) | ((with_reducible refine Below.setCell ?_ ?_ _); rotate_left; (focus (first | exact Nat.le_refl _ | omega | (simp; done) | (simp; omega) | (simp at *; omega)))))) (hbwf.mono (by (focus (first | exact Nat.le_refl _ | omega | (simp; done) | (simp; omega) | (simp at *; omega)))))))
  go_wp2
  go_ret
  exact ⟨rfl, (by repeat (first | (with_reducible assumption) | (with_reducible exact Below.refl _ _) | (with_reducible refine Below.drew ?_) | (with_reducible refine below_drewN ?_ _) | ((with_reducible refine Below.alloc ?_ ?_ _); rotate_left; (focus (first | exact Nat.le_refl _ | omega | (simp; done) | (simp; omega) | (simp at *; omega)))) | ((with_reducible refine Below.setCell ?_ ?_ _); rotate_left; (focus (first | exact Nat.le_refl _ | omega | (simp; done) | (simp; omega) | (simp at *; omega))))))⟩

/-- The law, whatever the arguments. -/
theorem RenderMarginsOnlyMove_walk {w : World} (L R C : Int) (A : Option Addr) (n c : Nat) (p : Nat → Int) (hn : n ≤ maxLen) (hp : Byt p) (hr : RdB w A n p) (s : Int) (_hs : (Lit.int .i64 s).wf = true) (l : Int) (_hl : (Lit.int .i64 l).wf = true) (t : Int) (_ht : (Lit.int .i64 t).wf = true)
    (x : Int) (_hx : (Lit.int .i64 x).wf = true) (y : Int) (_hy : (Lit.int .i64 y).wf = true) :
    Calls Try.prog 4 #[gv L R C A n c, .int .i64 s, .int .i64 l, .int .i64 t, .int .i64 x, .int .i64 y] w fun e w' => e = .returned (.bool true) ∧ Below w.heap.size w w' := by
  rcases drawF_cases (gridF L R C n p) s l t with h | ⟨h, hs, hl, ht⟩
  · exact RMO_bad A n c L R C s l t x y p w hn hp hr h
  · rcases gridF_cases L R C n p with hg | hg
    · have hR : 53 ≤ R ∧ R ≤ 85 := by have := rowsOf_lv hg.lv; have := hg.rows; omega
      obtain ⟨_, _, d3, d4, hd, _⟩ := draw_bd hs hl ht hR
      have hd2 := (draw_bd hs (by decide : (2 : Int) ≤ 2 ∧ (2 : Int) ≤ 40) (by decide : (2 : Int) ≤ 2 ∧ (2 : Int) ≤ 40) hR).2.2.2.2.1
      by_cases hx : 0 ≤ x ∧ x ≤ 58 * s - 1
      · by_cases hy : 0 ≤ y ∧ y ≤ R * s - 1
        · exact RMO_ok A n c ((58 * s + 2 * l) * (R * s + 2 * t)).toNat ((58 * s + 4) * (R * s + 4)).toNat L R C s l t x y p w hn hp hr hg hs hl ht hx hy hR (by omega) (by
            have e : (58 * s + 2 * 2) * (R * s + 2 * 2) = (58 * s + 4) * (R * s + 4) := rfl
            rw [e] at hd2; omega)
        · exact RMO_y A n c L R C s l t x y p w hn hp hr hg hs hl ht hx (by omega) ⟨d3, d4⟩
      · exact RMO_x A n c L R C s l t x y p w hn hp hr hg hs hl ht (by omega)
    · exact absurd h hg

end Go.Proofs.Ytpdjiokmafoppaa
