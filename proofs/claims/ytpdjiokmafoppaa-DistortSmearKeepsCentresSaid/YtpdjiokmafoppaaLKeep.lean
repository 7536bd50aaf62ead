/- The walk of DistortSmearKeepsCentres: it returns true and turns nothing that was there. Conditions: the cells read as bytes. -/
import Derived.Test.YtpdjiokmafoppaaBent
import Derived.Test.YtpdjiokmafoppaaSmearP
import Derived.Test.YtpdjiokmafoppaaField
namespace Go.Proofs.Ytpdjiokmafoppaa
open Go.RowKit

theorem dpx_byt {L R C s l t : Int} {n : Nat} {p : Nat → Int} (hg : GridOk L R C n p) (hp : Byt p) (hs : 3 ≤ s ∧ s ≤ 6) (W : Int) : Byt (dpx L R s l t W p) := fun k => by
  unfold dpx
  split
  · rename_i h
    have hx : ((k : Int) % W - l) / s < 58 := (Int.ediv_lt_iff_lt_mul (by omega)).2 (by omega)
    have hy : ((k : Int) / W - t) / s < R := (Int.ediv_lt_iff_lt_mul (by omega)).2 (by omega)
    have hx0 := Int.ediv_nonneg h.1 (show 0 ≤ s by omega)
    have hy0 := Int.ediv_nonneg h.2.1 (show 0 ≤ s by omega)
    have hl := hg.len
    have lo := hg.low (58 * (((k : Int) / W - t) / s) + ((k : Int) % W - l) / s).toNat (by omega)
    have lo2 := hp (58 * (((k : Int) / W - t) / s) + ((k : Int) % W - l) / s).toNat
    generalize p (58 * (((k : Int) / W - t) / s) + ((k : Int) % W - l) / s).toNat = v at *
    unfold shadeOf
    rcases hg.lv with rfl | rfl <;> omega
  · decide
theorem centre_px {L R C s l t : Int} {n c : Nat} {p : Nat → Int} (hg : GridOk L R C n p) (hs : 3 ≤ s ∧ s ≤ 6) (hl : 2 ≤ l ∧ l ≤ 40) (ht : 2 ≤ t ∧ t ≤ 40) (hc : c < n) {a b : Int} (ha : -1 ≤ a ∧ a ≤ 1) (hb : -1 ≤ b ∧ b ≤ 1) :
    px (58 * s + 2 * l) (R * s + 2 * t) (dpx L R s l t (58 * s + 2 * l) p) (l + (c : Int) % 58 * s + s / 2 + a) (t + (c : Int) / 58 * s + s / 2 + b) = shadeOf L (p c) := by
  have hlen := hg.len
  have c1 : 0 ≤ (c : Int) % 58 ∧ (c : Int) % 58 < 58 := by omega
  have c2 : 0 ≤ (c : Int) / 58 ∧ (c : Int) / 58 < R := by omega
  have c3 : 58 * ((c : Int) / 58) + (c : Int) % 58 = c := by omega
  generalize (c : Int) % 58 = u at *
  generalize (c : Int) / 58 = v at *
  have r1 : 0 ≤ s / 2 + a ∧ s / 2 + a < s := by omega
  have r2 : 0 ≤ s / 2 + b ∧ s / 2 + b < s := by omega
  obtain ⟨_, d1⟩ := split_at (W := s) (x := s / 2 + a) (y := u) r1 c1.1
  obtain ⟨_, d2⟩ := split_at (W := s) (x := s / 2 + b) (y := v) r2 c2.1
  have m1 : 0 ≤ u * s := Int.mul_nonneg c1.1 (by omega)
  have m2 : 0 ≤ v * s := Int.mul_nonneg c2.1 (by omega)
  have m3 : (u + 1) * s ≤ 58 * s := Int.mul_le_mul_of_nonneg_right (by omega) (by omega)
  have m4 : (v + 1) * s ≤ R * s := Int.mul_le_mul_of_nonneg_right (by omega) (by omega)
  rw [Int.add_mul] at m3 m4
  have hx : 0 ≤ u * s + (s / 2 + a) ∧ u * s + (s / 2 + a) < 58 * s := by omega
  have hy : 0 ≤ v * s + (s / 2 + b) ∧ v * s + (s / 2 + b) < R * s := by omega
  rw [show l + u * s + s / 2 + a = u * s + (s / 2 + a) + l from by omega, show t + v * s + s / 2 + b = v * s + (s / 2 + b) + t from by omega]
  generalize hX : u * s + (s / 2 + a) = X at *
  generalize hY : v * s + (s / 2 + b) = Y at *
  rw [px_in ⟨by omega, by omega⟩ ⟨by omega, by omega⟩]
  have h0 := Int.mul_nonneg (show 0 ≤ Y + t by omega) (show 0 ≤ 58 * s + 2 * l by omega)
  rw [dpx_in (x := X) (y := Y) (by omega) (by omega) hx hy (by omega), d1, d2, c3]; rfl
theorem centre_sm {L R C s l t : Int} {n c : Nat} {p : Nat → Int} (hg : GridOk L R C n p) (_hp : Byt p) (hs : 3 ≤ s ∧ s ≤ 6) (hl : 2 ≤ l ∧ l ≤ 40) (ht : 2 ≤ t ∧ t ≤ 40) (hc : c < n) :
    px (58 * s + 2 * l) (R * s + 2 * t) (smF (58 * s + 2 * l) (R * s + 2 * t) (dpx L R s l t (58 * s + 2 * l) p)) (l + (c : Int) % 58 * s + s / 2) (t + (c : Int) / 58 * s + s / 2) = shadeOf L (p c) := by
  have key := fun a b (ha : -1 ≤ a ∧ a ≤ 1) (hb : -1 ≤ b ∧ b ≤ 1) => centre_px (s := s) (l := l) (t := t) (c := c) hg hs hl ht hc ha hb
  have hlen := hg.len
  have c1 : 0 ≤ (c : Int) % 58 ∧ (c : Int) % 58 < 58 := by omega
  have c2 : 0 ≤ (c : Int) / 58 ∧ (c : Int) / 58 < R := by omega
  have m1 : 0 ≤ (c : Int) % 58 * s := Int.mul_nonneg c1.1 (by omega)
  have m2 : 0 ≤ (c : Int) / 58 * s := Int.mul_nonneg c2.1 (by omega)
  have m3 : ((c : Int) % 58 + 1) * s ≤ 58 * s := Int.mul_le_mul_of_nonneg_right (by omega) (by omega)
  have m4 : ((c : Int) / 58 + 1) * s ≤ R * s := Int.mul_le_mul_of_nonneg_right (by omega) (by omega)
  rw [Int.add_mul] at m3 m4
  generalize hX : l + (c : Int) % 58 * s + s / 2 = X at *
  generalize hY : t + (c : Int) / 58 * s + s / 2 = Y at *
  have hx : 0 ≤ X ∧ X < 58 * s + 2 * l := by omega
  have hy : 0 ≤ Y ∧ Y < R * s + 2 * t := by omega
  have h0 := Int.mul_nonneg hy.1 (show 0 ≤ 58 * s + 2 * l by omega)
  rw [px_in hx hy]
  obtain ⟨s1, s2⟩ := split_at (W := 58 * s + 2 * l) (x := X) (y := Y) hx hy.1
  show smSum _ _ _ _ 9 / 9 = _
  rw [smSum_nine, show ((Y * (58 * s + 2 * l) + X).toNat : Int) = Y * (58 * s + 2 * l) + X from by omega, s1, s2]
  have e := key 0 0 (by decide) (by decide)
  have e1 := key (-1) (-1) (by decide) (by decide)
  have e2 := key 0 (-1) (by decide) (by decide)
  have e3 := key 1 (-1) (by decide) (by decide)
  have e4 := key (-1) 0 (by decide) (by decide)
  have e5 := key 1 0 (by decide) (by decide)
  have e6 := key (-1) 1 (by decide) (by decide)
  have e7 := key 0 1 (by decide) (by decide)
  have e8 := key 1 1 (by decide) (by decide)
  simp only [Int.add_zero, ← Int.sub_eq_add_neg] at e e1 e2 e3 e4 e5 e6 e7 e8
  unfold nine
  rw [e, e1, e2, e3, e4, e5, e6, e7, e8]
  omega

set_option maxHeartbeats 2000000 in
theorem LKeep_bad (A : Option Addr) (n c : Nat) (L R C s l t z : Int) (p : Nat → Int) (w : World) (hn : n ≤ maxLen) (hp : Byt p) (hr : RdB w A n p) (hb : (drawF (gridF L R C n p) s l t).1 ≠ 0) :
    Calls Try.prog 19 #[gv L R C A n c, .int .i64 s, .int .i64 l, .int .i64 t, .int .i64 z] w fun e w' => e = .returned (.bool true) ∧ Below w.heap.size w w' := by
  have HR := rd_later hr
  obtain ⟨c0, i0, hci⟩ : ∃ c0 i0, drawF (gridF L R C n p) s l t = (c0, i0) := ⟨_, _, rfl⟩
  have hb0 : (c0 != 0) = true := by rw [hci] at hb; simpa using hb
  have HCI := Lib.hid hci
  clear hb hci hr
  go_enter Try.func19, Try.ntmps19
  go_wp2_with fail
  refine (DrawFault_any A n c L R C s l t p _ hn hp (HR.out _ (by repeat (first | (with_reducible assumption) | (with_reducible exact Below.refl _ _) | (with_reducible refine Below.drew ?_) | (with_reducible refine below_drewN ?_ _) | ((with_reducible refine Below.alloc ?_ ?_ _); rotate_left; (focus (first | exact Nat.le_refl _ | omega | (simp; done) | (simp; omega) | (simp at *; omega)))) | ((with_reducible refine Below.setCell ?_ ?_ _); rotate_left; (focus (first | exact Nat.le_refl _ | omega | (simp; done) | (simp; omega) | (simp at *; omega)))))))).mono ?_
  rw [HCI.out]
  rintro e w1 ⟨rfl, hbw1⟩
  have hzw1 := hbw1.size
  try simp at hzw1
  have kw1 : Below w.heap.size w w1 := Below.trans (by repeat (first | (with_reducible assumption) | (with_reducible exact Below.refl _ _) | (with_reducible refine Below.drew ?_) | (with_reducible refine below_drewN ?_ _) | ((with_reducible refine Below.alloc ?_ ?_ _); rotate_left; (focus (first | exact Nat.le_refl _ | omega | (simp; done) | (simp; omega) | (simp at *; omega)))) | ((with_reducible refine Below.setCell ?_ ?_ _); rotate_left; (focus (first | exact Nat.le_refl _ | omega | (simp; done) | (simp; omega) | (simp at *; omega)))))) (hbw1.mono (by (focus (first | exact Nat.le_refl _ | omega | (simp; done) | (simp; omega) | (simp at *; omega)))))
  have kzw1 := kw1.size
  go_wp2_with fail
  go_wp2_with fail
  refine (bent_any _).mono ?_
  rintro e w2 ⟨rfl, hbw2⟩
  have hzw2 := hbw2.size
  try simp at hzw2
  have kw2 : Below w.heap.size w w2 := Below.trans (by repeat (first | (with_reducible assumption) | (with_reducible exact Below.refl _ _) | (with_reducible refine Below.drew ?_) | (with_reducible refine below_drewN ?_ _) | ((with_reducible refine Below.alloc ?_ ?_ _); rotate_left; (focus (first | exact Nat.le_refl _ | omega | (simp; done) | (simp; omega) | (simp at *; omega)))) | ((with_reducible refine Below.setCell ?_ ?_ _); rotate_left; (focus (first | exact Nat.le_refl _ | omega | (simp; done) | (simp; omega) | (simp at *; omega)))))) (hbw2.mono (by (focus (first | exact Nat.le_refl _ | omega | (simp; done) | (simp; omega) | (simp at *; omega)))))
  have kzw2 := kw2.size
  go_wp2
  go_ret
  exact ⟨rfl, (by repeat (first | (with_reducible assumption) | (with_reducible exact Below.refl _ _) | (with_reducible refine Below.drew ?_) | (with_reducible refine below_drewN ?_ _) | ((with_reducible refine Below.alloc ?_ ?_ _); rotate_left; (focus (first | exact Nat.le_refl _ | omega | (simp; done) | (simp; omega) | (simp at *; omega)))) | ((with_reducible refine Below.setCell ?_ ?_ _); rotate_left; (focus (first | exact Nat.le_refl _ | omega | (simp; done) | (simp; omega) | (simp at *; omega))))))⟩

set_option maxHeartbeats 2000000 in
theorem LKeep_cell (A : Option Addr) (n c : Nat) (L R C s l t z : Int) (p : Nat → Int) (w : World) (hn : n ≤ maxLen) (hp : Byt p) (hr : RdB w A n p) (hb : drawF (gridF L R C n p) s l t = (0, 0)) (hz : z < 0 ∨ (n : Int) - 1 < z) :
    Calls Try.prog 19 #[gv L R C A n c, .int .i64 s, .int .i64 l, .int .i64 t, .int .i64 z] w fun e w' => e = .returned (.bool true) ∧ Below w.heap.size w w' := by
  have HR := rd_later hr
  have HCI := Lib.hid hb
  have t1 := inB_no hz
  have hnm : (n : Int) ≤ 9223372036854775807 := by have := hn; unfold maxLen at this; omega
  have HNN := Lib.hid hn
  clear hb hz hr hn
  go_enter Try.func19, Try.ntmps19
  go_wp2_with fail
  refine (DrawFault_any A n c L R C s l t p _ HNN.out hp (HR.out _ (by repeat (first | (with_reducible assumption) | (with_reducible exact Below.refl _ _) | (with_reducible refine Below.drew ?_) | (with_reducible refine below_drewN ?_ _) | ((with_reducible refine Below.alloc ?_ ?_ _); rotate_left; (focus (first | exact Nat.le_refl _ | omega | (simp; done) | (simp; omega) | (simp at *; omega)))) | ((with_reducible refine Below.setCell ?_ ?_ _); rotate_left; (focus (first | exact Nat.le_refl _ | omega | (simp; done) | (simp; omega) | (simp at *; omega)))))))).mono ?_
  rw [HCI.out]
  rintro e w1 ⟨rfl, hbw1⟩
  have hzw1 := hbw1.size
  try simp at hzw1
  have kw1 : Below w.heap.size w w1 := Below.trans (by repeat (first | (with_reducible assumption) | (with_reducible exact Below.refl _ _) | (with_reducible refine Below.drew ?_) | (with_reducible refine below_drewN ?_ _) | ((with_reducible refine Below.alloc ?_ ?_ _); rotate_left; (focus (first | exact Nat.le_refl _ | omega | (simp; done) | (simp; omega) | (simp at *; omega)))) | ((with_reducible refine Below.setCell ?_ ?_ _); rotate_left; (focus (first | exact Nat.le_refl _ | omega | (simp; done) | (simp; omega) | (simp at *; omega)))))) (hbw1.mono (by (focus (first | exact Nat.le_refl _ | omega | (simp; done) | (simp; omega) | (simp at *; omega)))))
  have kzw1 := kw1.size
  have Bgn : Blk w1 (w.heap.size) 24 #[.int .i64 L, .int .i64 R, .int .i64 C, .slice A n c] := Blk.below (by repeat (first | (with_reducible assumption) | (with_reducible exact Blk.new _ _ _) | ((with_reducible refine Blk.new_at _ _ _ ?_); (focus (first | (simp; done) | omega))) | (with_reducible refine Blk.drew ?_) | (with_reducible refine Blk.drewN ?_ _) | (with_reducible refine Blk.alloc ?_ _) | ((with_reducible refine Blk.far ?_ ?_ _); rotate_left; (focus (first | (simp; done) | (simp; omega) | omega))))) hbw1 (by (focus (first | omega | (simp; done) | (simp; omega) | (simp at *; omega))))
  try clear cg fg
  try clear Bg
  have Bg := Bgn
  clear Bgn
  have cg := Bg.cell
  have fg := Bg.frozen
  have lgw1 := Bg.lt
  go_wp2_with fail
  refine (In_any _ _ _ _).mono ?_
  rintro e w' ⟨rfl, rfl⟩
  go_wp2_with fail
  go_wp2_with fail
  refine (bent_any _).mono ?_
  rintro e w2 ⟨rfl, hbw2⟩
  have hzw2 := hbw2.size
  try simp at hzw2
  have kw2 : Below w.heap.size w w2 := Below.trans (by repeat (first | (with_reducible assumption) | (with_reducible exact Below.refl _ _) | (with_reducible refine Below.drew ?_) | (with_reducible refine below_drewN ?_ _) | ((with_reducible refine Below.alloc ?_ ?_ _); rotate_left; (focus (first | exact Nat.le_refl _ | omega | (simp; done) | (simp; omega) | (simp at *; omega)))) | ((with_reducible refine Below.setCell ?_ ?_ _); rotate_left; (focus (first | exact Nat.le_refl _ | omega | (simp; done) | (simp; omega) | (simp at *; omega)))))) (hbw2.mono (by (focus (first | exact Nat.le_refl _ | omega | (simp; done) | (simp; omega) | (simp at *; omega)))))
  have kzw2 := kw2.size
  go_wp2
  go_ret
  exact ⟨rfl, (by repeat (first | (with_reducible assumption) | (with_reducible exact Below.refl _ _) | (with_reducible refine Below.drew ?_) | (with_reducible refine below_drewN ?_ _) | ((with_reducible refine Below.alloc ?_ ?_ _); rotate_left; (focus (first | exact Nat.le_refl _ | omega | (simp; done) | (simp; omega) | (simp at *; omega)))) | ((with_reducible refine Below.setCell ?_ ?_ _); rotate_left; (focus (first | exact Nat.le_refl _ | omega | (simp; done) | (simp; omega) | (simp at *; omega))))))⟩

set_option maxHeartbeats 4000000 in
set_option maxRecDepth 100000 in
theorem LKeep_ok (A : Option Addr) (n c N z : Nat) (L R C s l t : Int) (p : Nat → Int) (w : World) (hn : n ≤ maxLen) (hp : Byt p) (hr : RdB w A n p) (hg : GridOk L R C n p) (hs : 3 ≤ s ∧ s ≤ 6) (hl : 2 ≤ l ∧ l ≤ 40) (ht : 2 ≤ t ∧ t ≤ 40)
    (hN : (N : Int) = (58 * s + 2 * l) * (R * s + 2 * t)) (hz : z < n) :
    Calls Try.prog 19 #[gv L R C A n c, .int .i64 s, .int .i64 l, .int .i64 t, .int .i64 z] w fun e w' => e = .returned (.bool true) ∧ Below w.heap.size w w' := by
  have HR := rd_later hr
  have HD : Hid (drawF (gridF L R C n p) s l t = (0, 0)) := Lib.hid (by rw [gridF_ok hg]; exact drawF_0 rfl hs hl ht)
  have hR : 53 ≤ R ∧ R ≤ 85 := by have := rowsOf_lv hg.lv; have := hg.rows; omega
  obtain ⟨d1, d2, d3, d4, _, _⟩ := draw_bd hs hl ht hR
  have hi : ImgOk (58 * s + 2 * l) (R * s + 2 * t) N := ⟨by omega, by omega, by omega, by omega, hN⟩
  have HI := Lib.hid hi
  have HF := Lib.hid (imgF_ok hi)
  have HDB := Lib.hid (dpx_byt (l := l) (t := t) hg hp hs (58 * s + 2 * l))
  have HP1 := Lib.hid (fun w (g : Nat) h => by
    have q := Pixel_any (some ⟨g, 0, none⟩) N N (58 * s + 2 * l) (R * s + 2 * t) (l + (z : Int) % 58 * s + s / 2) (t + (z : Int) / 58 * s + s / 2) (dpx L R s l t (58 * s + 2 * l) p) w hi h
    have e := centre_px (s := s) (l := l) (t := t) hg hs hl ht hz (a := 0) (b := 0) (by decide) (by decide)
    rw [Int.add_zero, Int.add_zero] at e
    rw [e] at q
    exact q)
  have HP2 := Lib.hid (fun w (g : Nat) h => by
    have q := Pixel_any (some ⟨g, 0, none⟩) N N (58 * s + 2 * l) (R * s + 2 * t) (l + (z : Int) % 58 * s + s / 2) (t + (z : Int) / 58 * s + s / 2) (smF (58 * s + 2 * l) (R * s + 2 * t) (dpx L R s l t (58 * s + 2 * l) p)) w hi h
    rw [centre_sm hg hp hs hl ht hz] at q
    exact q)
  have HG := Lib.hid hg
  have hzb : (z : Int) < 4930 := by have := hg.len; omega
  have t1 := inB_yes (show 0 ≤ (z : Int) by omega) (show (z : Int) ≤ (n : Int) - 1 by omega)
  have hnm : (n : Int) ≤ 9223372036854775807 := by have := hn; unfold maxLen at this; omega
  have HNN := Lib.hid hn
  have HN := Lib.hid hN
  obtain ⟨U, hU⟩ : ∃ U, U = (z : Int) % 58 := ⟨_, rfl⟩
  obtain ⟨V, hV⟩ : ∃ V, V = (z : Int) / 58 := ⟨_, rfl⟩
  have ub : 0 ≤ U ∧ U < 58 := by omega
  have vb : 0 ≤ V ∧ V < 85 := by omega
  have b1 : 0 ≤ U * s := Int.mul_nonneg ub.1 (by omega)
  have b2 : U * s ≤ 58 * 6 := Int.mul_le_mul (by omega) hs.2 (by omega) (by omega)
  have b3 : 0 ≤ V * s := Int.mul_nonneg vb.1 (by omega)
  have b4 : V * s ≤ 85 * 6 := Int.mul_le_mul (by omega) hs.2 (by omega) (by omega)
  have x1 : (z : Int).tmod 58 = U := by rw [hU]; exact Int.tmod_eq_emod_of_nonneg (by omega)
  have x2 : (z : Int).tdiv 58 = V := by rw [hV]; exact Int.tdiv_eq_ediv_of_nonneg (by omega)
  have x3 : s.tdiv 2 = s / 2 := Int.tdiv_eq_ediv_of_nonneg (by omega)
  have x4 : IntKind.i64.wrap U = U := IntWalk.i64_in _ (by omega)
  have x5 : IntKind.i64.wrap V = V := IntWalk.i64_in _ (by omega)
  have x6 : IntKind.i64.wrap (U * s) = U * s := IntWalk.i64_in _ (by omega)
  have x7 : IntKind.i64.wrap (V * s) = V * s := IntWalk.i64_in _ (by omega)
  have x8 : IntKind.i64.wrap (s / 2) = s / 2 := IntWalk.i64_in _ (by omega)
  have x9 : IntKind.i64.wrap (l + U * s) = l + U * s := IntWalk.i64_in _ (by omega)
  have xa : IntKind.i64.wrap (t + V * s) = t + V * s := IntWalk.i64_in _ (by omega)
  have xb : IntKind.i64.wrap (l + U * s + s / 2) = l + U * s + s / 2 := IntWalk.i64_in _ (by omega)
  have xc : IntKind.i64.wrap (t + V * s + s / 2) = t + V * s + s / 2 := IntWalk.i64_in _ (by omega)
  rw [← hU, ← hV] at HP1 HP2
  have HS := Lib.hid hs
  have HL := Lib.hid hl
  have HT := Lib.hid ht
  generalize shadeOf L (p z) = SH at *
  clear hU hV hr hg hi hn hN hR d1 d2 d3 d4 b1 b2 b3 b4 hl ht hs
  go_enter Try.func19, Try.ntmps19
  go_wp2_with fail
  refine (DrawFault_any A n c L R C s l t p _ HNN.out hp (HR.out _ (by repeat (first | (with_reducible assumption) | (with_reducible exact Below.refl _ _) | (with_reducible refine Below.drew ?_) | (with_reducible refine below_drewN ?_ _) | ((with_reducible refine Below.alloc ?_ ?_ _); rotate_left; (focus (first | exact Nat.le_refl _ | omega | (simp; done) | (simp; omega) | (simp at *; omega)))) | ((with_reducible refine Below.setCell ?_ ?_ _); rotate_left; (focus (first | exact Nat.le_refl _ | omega | (simp; done) | (simp; omega) | (simp at *; omega)))))))).mono ?_
  rw [HD.out]
  rintro e w0 ⟨rfl, hbw0⟩
  have hzw0 := hbw0.size
  try simp at hzw0
  have kw0 : Below w.heap.size w w0 := Below.trans (by repeat (first | (with_reducible assumption) | (with_reducible exact Below.refl _ _) | (with_reducible refine Below.drew ?_) | (with_reducible refine below_drewN ?_ _) | ((with_reducible refine Below.alloc ?_ ?_ _); rotate_left; (focus (first | exact Nat.le_refl _ | omega | (simp; done) | (simp; omega) | (simp at *; omega)))) | ((with_reducible refine Below.setCell ?_ ?_ _); rotate_left; (focus (first | exact Nat.le_refl _ | omega | (simp; done) | (simp; omega) | (simp at *; omega)))))) (hbw0.mono (by (focus (first | exact Nat.le_refl _ | omega | (simp; done) | (simp; omega) | (simp at *; omega)))))
  have kzw0 := kw0.size
  try have lww0 : w.heap.size < w0.heap.size := by omega
  have Bgn : Blk w0 (w.heap.size) 24 #[.int .i64 L, .int .i64 R, .int .i64 C, .slice A n c] := Blk.below (by repeat (first | (with_reducible assumption) | (with_reducible exact Blk.new _ _ _) | ((with_reducible refine Blk.new_at _ _ _ ?_); (focus (first | (simp; done) | omega))) | (with_reducible refine Blk.drew ?_) | (with_reducible refine Blk.drewN ?_ _) | (with_reducible refine Blk.alloc ?_ _) | ((with_reducible refine Blk.far ?_ ?_ _); rotate_left; (focus (first | (simp; done) | (simp; omega) | omega))))) hbw0 (by (focus (first | omega | (simp; done) | (simp; omega) | (simp at *; omega))))
  try clear cg fg
  try clear Bg
  have Bg := Bgn
  clear Bgn
  have cg := Bg.cell
  have fg := Bg.frozen
  have lgw0 := Bg.lt
  go_wp2_with fail
  refine (In_any _ _ _ _).mono ?_
  rintro e w' ⟨rfl, rfl⟩
  go_wp2_with fail
  refine (Draw_ok A n c N L R C s l t p _ HG.out hp (HR.out _ (by repeat (first | (with_reducible assumption) | (with_reducible exact Below.refl _ _) | (with_reducible refine Below.drew ?_) | (with_reducible refine below_drewN ?_ _) | ((with_reducible refine Below.alloc ?_ ?_ _); rotate_left; (focus (first | exact Nat.le_refl _ | omega | (simp; done) | (simp; omega) | (simp at *; omega)))) | ((with_reducible refine Below.setCell ?_ ?_ _); rotate_left; (focus (first | exact Nat.le_refl _ | omega | (simp; done) | (simp; omega) | (simp at *; omega))))))) HS.out HL.out HT.out HN.out).mono ?_
  rintro e w1 ⟨g1, rfl, hg1, hrow, hbw1⟩
  have R1 := rd_later (Rd.of_row hrow)
  clear hrow
  have hzw1 := hbw1.size
  try simp at hzw1
  have kw1 : Below w.heap.size w w1 := Below.trans (by repeat (first | (with_reducible assumption) | (with_reducible exact Below.refl _ _) | (with_reducible refine Below.drew ?_) | (with_reducible refine below_drewN ?_ _) | ((with_reducible refine Below.alloc ?_ ?_ _); rotate_left; (focus (first | exact Nat.le_refl _ | omega | (simp; done) | (simp; omega) | (simp at *; omega)))) | ((with_reducible refine Below.setCell ?_ ?_ _); rotate_left; (focus (first | exact Nat.le_refl _ | omega | (simp; done) | (simp; omega) | (simp at *; omega)))))) (hbw1.mono (by (focus (first | exact Nat.le_refl _ | omega | (simp; done) | (simp; omega) | (simp at *; omega)))))
  have kzw1 := kw1.size
  have kw0w1 : Below w0.heap.size w0 w1 := Below.trans (by repeat (first | (with_reducible assumption) | (with_reducible exact Below.refl _ _) | (with_reducible refine Below.drew ?_) | (with_reducible refine below_drewN ?_ _) | ((with_reducible refine Below.alloc ?_ ?_ _); rotate_left; (focus (first | exact Nat.le_refl _ | omega | (simp; done) | (simp; omega) | (simp at *; omega)))) | ((with_reducible refine Below.setCell ?_ ?_ _); rotate_left; (focus (first | exact Nat.le_refl _ | omega | (simp; done) | (simp; omega) | (simp at *; omega)))))) (hbw1.mono (by (focus (first | exact Nat.le_refl _ | omega | (simp; done) | (simp; omega) | (simp at *; omega)))))
  try have lww1 : w.heap.size < w1.heap.size := by omega
  try have lw0w1 : w0.heap.size < w1.heap.size := by omega
  go_wp2_with fail
  refine (Smear_ok _ N N (58 * s + 2 * l) (R * s + 2 * t) (dpx L R s l t (58 * s + 2 * l) p) _ HI.out HDB.out (R1.out _ (by repeat (first | (with_reducible assumption) | (with_reducible exact Below.refl _ _) | (with_reducible refine Below.drew ?_) | (with_reducible refine below_drewN ?_ _) | ((with_reducible refine Below.alloc ?_ ?_ _); rotate_left; (focus (first | exact Nat.le_refl _ | omega | (simp; done) | (simp; omega) | (simp at *; omega)))) | ((with_reducible refine Below.setCell ?_ ?_ _); rotate_left; (focus (first | exact Nat.le_refl _ | omega | (simp; done) | (simp; omega) | (simp at *; omega)))))))).mono ?_
  rintro e w2 ⟨g2, rfl, hg2, hrow, hbw2⟩
  have R2 := rd_later (Rd.of_row hrow)
  clear hrow
  have hzw2 := hbw2.size
  try simp at hzw2
  have kw2 : Below w.heap.size w w2 := Below.trans (by repeat (first | (with_reducible assumption) | (with_reducible exact Below.refl _ _) | (with_reducible refine Below.drew ?_) | (with_reducible refine below_drewN ?_ _) | ((with_reducible refine Below.alloc ?_ ?_ _); rotate_left; (focus (first | exact Nat.le_refl _ | omega | (simp; done) | (simp; omega) | (simp at *; omega)))) | ((with_reducible refine Below.setCell ?_ ?_ _); rotate_left; (focus (first | exact Nat.le_refl _ | omega | (simp; done) | (simp; omega) | (simp at *; omega)))))) (hbw2.mono (by (focus (first | exact Nat.le_refl _ | omega | (simp; done) | (simp; omega) | (simp at *; omega)))))
  have kzw2 := kw2.size
  have kw0w2 : Below w0.heap.size w0 w2 := Below.trans (by repeat (first | (with_reducible assumption) | (with_reducible exact Below.refl _ _) | (with_reducible refine Below.drew ?_) | (with_reducible refine below_drewN ?_ _) | ((with_reducible refine Below.alloc ?_ ?_ _); rotate_left; (focus (first | exact Nat.le_refl _ | omega | (simp; done) | (simp; omega) | (simp at *; omega)))) | ((with_reducible refine Below.setCell ?_ ?_ _); rotate_left; (focus (first | exact Nat.le_refl _ | omega | (simp; done) | (simp; omega) | (simp at *; omega)))))) (hbw2.mono (by (focus (first | exact Nat.le_refl _ | omega | (simp; done) | (simp; omega) | (simp at *; omega)))))
  have kw1w2 : Below w1.heap.size w1 w2 := Below.trans (by repeat (first | (with_reducible assumption) | (with_reducible exact Below.refl _ _) | (with_reducible refine Below.drew ?_) | (with_reducible refine below_drewN ?_ _) | ((with_reducible refine Below.alloc ?_ ?_ _); rotate_left; (focus (first | exact Nat.le_refl _ | omega | (simp; done) | (simp; omega) | (simp at *; omega)))) | ((with_reducible refine Below.setCell ?_ ?_ _); rotate_left; (focus (first | exact Nat.le_refl _ | omega | (simp; done) | (simp; omega) | (simp at *; omega)))))) (hbw2.mono (by (focus (first | exact Nat.le_refl _ | omega | (simp; done) | (simp; omega) | (simp at *; omega)))))
  try have lww2 : w.heap.size < w2.heap.size := by omega
  try have lw0w2 : w0.heap.size < w2.heap.size := by omega
  try have lw1w2 : w1.heap.size < w2.heap.size := by omega
  have Bxn : Blk w2 (w1.heap.size) 26 #[.int .i64 (58 * s + 2 * l), .int .i64 (R * s + 2 * t), .slice (some ⟨g1, 0, none⟩) N N] := Blk.below (by repeat (first | (with_reducible assumption) | (with_reducible exact Blk.new _ _ _) | ((with_reducible refine Blk.new_at _ _ _ ?_); (focus (first | (simp; done) | omega))) | (with_reducible refine Blk.drew ?_) | (with_reducible refine Blk.drewN ?_ _) | (with_reducible refine Blk.alloc ?_ _) | ((with_reducible refine Blk.far ?_ ?_ _); rotate_left; (focus (first | (simp; done) | (simp; omega) | omega))))) hbw2 (by (focus (first | omega | (simp; done) | (simp; omega) | (simp at *; omega))))
  try clear cx fx
  try clear Bx
  have Bx := Bxn
  clear Bxn
  have cx := Bx.cell
  have fx := Bx.frozen
  have lxw2 := Bx.lt
  have Bfn : Blk w2 (w1.heap.size + 1) 28 #[.int .i64 0, .int .i64 0] := Blk.below (by repeat (first | (with_reducible assumption) | (with_reducible exact Blk.new _ _ _) | ((with_reducible refine Blk.new_at _ _ _ ?_); (focus (first | (simp; done) | omega))) | (with_reducible refine Blk.drew ?_) | (with_reducible refine Blk.drewN ?_ _) | (with_reducible refine Blk.alloc ?_ _) | ((with_reducible refine Blk.far ?_ ?_ _); rotate_left; (focus (first | (simp; done) | (simp; omega) | omega))))) hbw2 (by (focus (first | omega | (simp; done) | (simp; omega) | (simp at *; omega))))
  try clear cf ff
  try clear Bf
  have Bf := Bfn
  clear Bfn
  have cf := Bf.cell
  have ff := Bf.frozen
  have lfw2 := Bf.lt
  go_wp2_with fail
  refine (ImageFault_any _ N N (58 * s + 2 * l) (R * s + 2 * t) _).mono ?_
  rw [HF.out]
  rintro e w3 ⟨rfl, hbw3⟩
  have hzw3 := hbw3.size
  try simp at hzw3
  have kw3 : Below w.heap.size w w3 := Below.trans (by repeat (first | (with_reducible assumption) | (with_reducible exact Below.refl _ _) | (with_reducible refine Below.drew ?_) | (with_reducible refine below_drewN ?_ _) | ((with_reducible refine Below.alloc ?_ ?_ _); rotate_left; (focus (first | exact Nat.le_refl _ | omega | (simp; done) | (simp; omega) | (simp at *; omega)))) | ((with_reducible refine Below.setCell ?_ ?_ _); rotate_left; (focus (first | exact Nat.le_refl _ | omega | (simp; done) | (simp; omega) | (simp at *; omega)))))) (hbw3.mono (by (focus (first | exact Nat.le_refl _ | omega | (simp; done) | (simp; omega) | (simp at *; omega)))))
  have kzw3 := kw3.size
  have kw0w3 : Below w0.heap.size w0 w3 := Below.trans (by repeat (first | (with_reducible assumption) | (with_reducible exact Below.refl _ _) | (with_reducible refine Below.drew ?_) | (with_reducible refine below_drewN ?_ _) | ((with_reducible refine Below.alloc ?_ ?_ _); rotate_left; (focus (first | exact Nat.le_refl _ | omega | (simp; done) | (simp; omega) | (simp at *; omega)))) | ((with_reducible refine Below.setCell ?_ ?_ _); rotate_left; (focus (first | exact Nat.le_refl _ | omega | (simp; done) | (simp; omega) | (simp at *; omega)))))) (hbw3.mono (by (focus (first | exact Nat.le_refl _ | omega | (simp; done) | (simp; omega) | (simp at *; omega)))))
  have kw1w3 : Below w1.heap.size w1 w3 := Below.trans (by repeat (first | (with_reducible assumption) | (with_reducible exact Below.refl _ _) | (with_reducible refine Below.drew ?_) | (with_reducible refine below_drewN ?_ _) | ((with_reducible refine Below.alloc ?_ ?_ _); rotate_left; (focus (first | exact Nat.le_refl _ | omega | (simp; done) | (simp; omega) | (simp at *; omega)))) | ((with_reducible refine Below.setCell ?_ ?_ _); rotate_left; (focus (first | exact Nat.le_refl _ | omega | (simp; done) | (simp; omega) | (simp at *; omega)))))) (hbw3.mono (by (focus (first | exact Nat.le_refl _ | omega | (simp; done) | (simp; omega) | (simp at *; omega)))))
  have kw2w3 : Below w2.heap.size w2 w3 := Below.trans (by repeat (first | (with_reducible assumption) | (with_reducible exact Below.refl _ _) | (with_reducible refine Below.drew ?_) | (with_reducible refine below_drewN ?_ _) | ((with_reducible refine Below.alloc ?_ ?_ _); rotate_left; (focus (first | exact Nat.le_refl _ | omega | (simp; done) | (simp; omega) | (simp at *; omega)))) | ((with_reducible refine Below.setCell ?_ ?_ _); rotate_left; (focus (first | exact Nat.le_refl _ | omega | (simp; done) | (simp; omega) | (simp at *; omega)))))) (hbw3.mono (by (focus (first | exact Nat.le_refl _ | omega | (simp; done) | (simp; omega) | (simp at *; omega)))))
  try have lww3 : w.heap.size < w3.heap.size := by omega
  try have lw0w3 : w0.heap.size < w3.heap.size := by omega
  try have lw1w3 : w1.heap.size < w3.heap.size := by omega
  try have lw2w3 : w2.heap.size < w3.heap.size := by omega
  have Bxn : Blk w3 (w1.heap.size) 26 #[.int .i64 (58 * s + 2 * l), .int .i64 (R * s + 2 * t), .slice (some ⟨g1, 0, none⟩) N N] := Blk.below (by repeat (first | (with_reducible assumption) | (with_reducible exact Blk.new _ _ _) | ((with_reducible refine Blk.new_at _ _ _ ?_); (focus (first | (simp; done) | omega))) | (with_reducible refine Blk.drew ?_) | (with_reducible refine Blk.drewN ?_ _) | (with_reducible refine Blk.alloc ?_ _) | ((with_reducible refine Blk.far ?_ ?_ _); rotate_left; (focus (first | (simp; done) | (simp; omega) | omega))))) hbw3 (by (focus (first | omega | (simp; done) | (simp; omega) | (simp at *; omega))))
  try clear cx fx
  try clear Bx
  have Bx := Bxn
  clear Bxn
  have cx := Bx.cell
  have fx := Bx.frozen
  have lxw3 := Bx.lt
  have Bfn : Blk w3 (w1.heap.size + 1) 28 #[.int .i64 0, .int .i64 0] := Blk.below (by repeat (first | (with_reducible assumption) | (with_reducible exact Blk.new _ _ _) | ((with_reducible refine Blk.new_at _ _ _ ?_); (focus (first | (simp; done) | omega))) | (with_reducible refine Blk.drew ?_) | (with_reducible refine Blk.drewN ?_ _) | (with_reducible refine Blk.alloc ?_ _) | ((with_reducible refine Blk.far ?_ ?_ _); rotate_left; (focus (first | (simp; done) | (simp; omega) | omega))))) hbw3 (by (focus (first | omega | (simp; done) | (simp; omega) | (simp at *; omega))))
  try clear cf ff
  try clear Bf
  have Bf := Bfn
  clear Bfn
  have cf := Bf.cell
  have ff := Bf.frozen
  have lfw3 := Bf.lt
  have Byn : Blk w3 (w2.heap.size) 26 #[.int .i64 (58 * s + 2 * l), .int .i64 (R * s + 2 * t), .slice (some ⟨g2, 0, none⟩) N N] := Blk.below (by repeat (first | (with_reducible assumption) | (with_reducible exact Blk.new _ _ _) | ((with_reducible refine Blk.new_at _ _ _ ?_); (focus (first | (simp; done) | omega))) | (with_reducible refine Blk.drew ?_) | (with_reducible refine Blk.drewN ?_ _) | (with_reducible refine Blk.alloc ?_ _) | ((with_reducible refine Blk.far ?_ ?_ _); rotate_left; (focus (first | (simp; done) | (simp; omega) | omega))))) hbw3 (by (focus (first | omega | (simp; done) | (simp; omega) | (simp at *; omega))))
  try clear cy fy
  try clear By
  have By := Byn
  clear Byn
  have cy := By.cell
  have fy := By.frozen
  have lyw3 := By.lt
  have Bhn : Blk w3 (w2.heap.size + 1) 28 #[.int .i64 0, .int .i64 0] := Blk.below (by repeat (first | (with_reducible assumption) | (with_reducible exact Blk.new _ _ _) | ((with_reducible refine Blk.new_at _ _ _ ?_); (focus (first | (simp; done) | omega))) | (with_reducible refine Blk.drew ?_) | (with_reducible refine Blk.drewN ?_ _) | (with_reducible refine Blk.alloc ?_ _) | ((with_reducible refine Blk.far ?_ ?_ _); rotate_left; (focus (first | (simp; done) | (simp; omega) | omega))))) hbw3 (by (focus (first | omega | (simp; done) | (simp; omega) | (simp at *; omega))))
  try clear ch fh
  try clear Bh
  have Bh := Bhn
  clear Bhn
  have ch := Bh.cell
  have fh := Bh.frozen
  have lhw3 := Bh.lt
  go_wp2_with fail
  refine (ImageFault_any _ N N (58 * s + 2 * l) (R * s + 2 * t) _).mono ?_
  rw [HF.out]
  rintro e w4 ⟨rfl, hbw4⟩
  have hzw4 := hbw4.size
  try simp at hzw4
  have kw4 : Below w.heap.size w w4 := Below.trans (by repeat (first | (with_reducible assumption) | (with_reducible exact Below.refl _ _) | (with_reducible refine Below.drew ?_) | (with_reducible refine below_drewN ?_ _) | ((with_reducible refine Below.alloc ?_ ?_ _); rotate_left; (focus (first | exact Nat.le_refl _ | omega | (simp; done) | (simp; omega) | (simp at *; omega)))) | ((with_reducible refine Below.setCell ?_ ?_ _); rotate_left; (focus (first | exact Nat.le_refl _ | omega | (simp; done) | (simp; omega) | (simp at *; omega)))))) (hbw4.mono (by (focus (first | exact Nat.le_refl _ | omega | (simp; done) | (simp; omega) | (simp at *; omega)))))
  have kzw4 := kw4.size
  have kw0w4 : Below w0.heap.size w0 w4 := Below.trans (by repeat (first | (with_reducible assumption) | (with_reducible exact Below.refl _ _) | (with_reducible refine Below.drew ?_) | (with_reducible refine below_drewN ?_ _) | ((with_reducible refine Below.alloc ?_ ?_ _); rotate_left; (focus (first | exact Nat.le_refl _ | omega | (simp; done) | (simp; omega) | (simp at *; omega)))) | ((with_reducible refine Below.setCell ?_ ?_ _); rotate_left; (focus (first | exact Nat.le_refl _ | omega | (simp; done) | (simp; omega) | (simp at *; omega)))))) (hbw4.mono (by (focus (first | exact Nat.le_refl _ | omega | (simp; done) | (simp; omega) | (simp at *; omega)))))
  have kw1w4 : Below w1.heap.size w1 w4 := Below.trans (by repeat (first | (with_reducible assumption) | (with_reducible exact Below.refl _ _) | (with_reducible refine Below.drew ?_) | (with_reducible refine below_drewN ?_ _) | ((with_reducible refine Below.alloc ?_ ?_ _); rotate_left; (focus (first | exact Nat.le_refl _ | omega | (simp; done) | (simp; omega) | (simp at *; omega)))) | ((with_reducible refine Below.setCell ?_ ?_ _); rotate_left; (focus (first | exact Nat.le_refl _ | omega | (simp; done) | (simp; omega) | (simp at *; omega)))))) (hbw4.mono (by (focus (first | exact Nat.le_refl _ | omega | (simp; done) | (simp; omega) | (simp at *; omega)))))
  have kw2w4 : Below w2.heap.size w2 w4 := Below.trans (by repeat (first | (with_reducible assumption) | (with_reducible exact Below.refl _ _) | (with_reducible refine Below.drew ?_) | (with_reducible refine below_drewN ?_ _) | ((with_reducible refine Below.alloc ?_ ?_ _); rotate_left; (focus (first | exact Nat.le_refl _ | omega | (simp; done) | (simp; omega) | (simp at *; omega)))) | ((with_reducible refine Below.setCell ?_ ?_ _); rotate_left; (focus (first | exact Nat.le_refl _ | omega | (simp; done) | (simp; omega) | (simp at *; omega)))))) (hbw4.mono (by (focus (first | exact Nat.le_refl _ | omega | (simp; done) | (simp; omega) | (simp at *; omega)))))
  have kw3w4 : Below w3.heap.size w3 w4 := Below.trans (by repeat (first | (with_reducible assumption) | (with_reducible exact Below.refl _ _) | (with_reducible refine Below.drew ?_) | (with_reducible refine below_drewN ?_ _) | ((with_reducible refine Below.alloc ?_ ?_ _); rotate_left; (focus (first | exact Nat.le_refl _ | omega | (simp; done) | (simp; omega) | (simp at *; omega)))) | ((with_reducible refine Below.setCell ?_ ?_ _); rotate_left; (focus (first | exact Nat.le_refl _ | omega | (simp; done) | (simp; omega) | (simp at *; omega)))))) (hbw4.mono (by (focus (first | exact Nat.le_refl _ | omega | (simp; done) | (simp; omega) | (simp at *; omega)))))
  try have lww4 : w.heap.size < w4.heap.size := by omega
  try have lw0w4 : w0.heap.size < w4.heap.size := by omega
  try have lw1w4 : w1.heap.size < w4.heap.size := by omega
  try have lw2w4 : w2.heap.size < w4.heap.size := by omega
  try have lw3w4 : w3.heap.size < w4.heap.size := by omega
  have Bxn : Blk w4 (w1.heap.size) 26 #[.int .i64 (58 * s + 2 * l), .int .i64 (R * s + 2 * t), .slice (some ⟨g1, 0, none⟩) N N] := Blk.below (by repeat (first | (with_reducible assumption) | (with_reducible exact Blk.new _ _ _) | ((with_reducible refine Blk.new_at _ _ _ ?_); (focus (first | (simp; done) | omega))) | (with_reducible refine Blk.drew ?_) | (with_reducible refine Blk.drewN ?_ _) | (with_reducible refine Blk.alloc ?_ _) | ((with_reducible refine Blk.far ?_ ?_ _); rotate_left; (focus (first | (simp; done) | (simp; omega) | omega))))) hbw4 (by (focus (first | omega | (simp; done) | (simp; omega) | (simp at *; omega))))
  try clear cx fx
  try clear Bx
  have Bx := Bxn
  clear Bxn
  have cx := Bx.cell
  have fx := Bx.frozen
  have lxw4 := Bx.lt
  have Bfn : Blk w4 (w1.heap.size + 1) 28 #[.int .i64 0, .int .i64 0] := Blk.below (by repeat (first | (with_reducible assumption) | (with_reducible exact Blk.new _ _ _) | ((with_reducible refine Blk.new_at _ _ _ ?_); (focus (first | (simp; done) | omega))) | (with_reducible refine Blk.drew ?_) | (with_reducible refine Blk.drewN ?_ _) | (with_reducible refine Blk.alloc ?_ _) | ((with_reducible refine Blk.far ?_ ?_ _); rotate_left; (focus (first | (simp; done) | (simp; omega) | omega))))) hbw4 (by (focus (first | omega | (simp; done) | (simp; omega) | (simp at *; omega))))
  try clear cf ff
  try clear Bf
  have Bf := Bfn
  clear Bfn
  have cf := Bf.cell
  have ff := Bf.frozen
  have lfw4 := Bf.lt
  have Byn : Blk w4 (w2.heap.size) 26 #[.int .i64 (58 * s + 2 * l), .int .i64 (R * s + 2 * t), .slice (some ⟨g2, 0, none⟩) N N] := Blk.below (by repeat (first | (with_reducible assumption) | (with_reducible exact Blk.new _ _ _) | ((with_reducible refine Blk.new_at _ _ _ ?_); (focus (first | (simp; done) | omega))) | (with_reducible refine Blk.drew ?_) | (with_reducible refine Blk.drewN ?_ _) | (with_reducible refine Blk.alloc ?_ _) | ((with_reducible refine Blk.far ?_ ?_ _); rotate_left; (focus (first | (simp; done) | (simp; omega) | omega))))) hbw4 (by (focus (first | omega | (simp; done) | (simp; omega) | (simp at *; omega))))
  try clear cy fy
  try clear By
  have By := Byn
  clear Byn
  have cy := By.cell
  have fy := By.frozen
  have lyw4 := By.lt
  have Bhn : Blk w4 (w2.heap.size + 1) 28 #[.int .i64 0, .int .i64 0] := Blk.below (by repeat (first | (with_reducible assumption) | (with_reducible exact Blk.new _ _ _) | ((with_reducible refine Blk.new_at _ _ _ ?_); (focus (first | (simp; done) | omega))) | (with_reducible refine Blk.drew ?_) | (with_reducible refine Blk.drewN ?_ _) | (with_reducible refine Blk.alloc ?_ _) | ((with_reducible refine Blk.far ?_ ?_ _); rotate_left; (focus (first | (simp; done) | (simp; omega) | omega))))) hbw4 (by (focus (first | omega | (simp; done) | (simp; omega) | (simp at *; omega))))
  try clear ch fh
  try clear Bh
  have Bh := Bhn
  clear Bhn
  have ch := Bh.cell
  have fh := Bh.frozen
  have lhw4 := Bh.lt
  go_wp2_with fail
  have CS : Hid (∀ X, Below w4.heap.size w4 X → X.cell? ⟨w1.heap.size, 0, none⟩ = some (.int .i64 (58 * s + 2 * l)) ∧ X.cell? ⟨w1.heap.size, 1, none⟩ = some (.int .i64 (R * s + 2 * t)) ∧ X.cell? ⟨w1.heap.size, 2, none⟩ = some (.slice (some ⟨g1, 0, none⟩) N N) ∧
      X.cell? ⟨w2.heap.size, 0, none⟩ = some (.int .i64 (58 * s + 2 * l)) ∧ X.cell? ⟨w2.heap.size, 1, none⟩ = some (.int .i64 (R * s + 2 * t)) ∧ X.cell? ⟨w2.heap.size, 2, none⟩ = some (.slice (some ⟨g2, 0, none⟩) N N)) :=
    Lib.hid fun X q => ⟨(Bx.below q lxw4).cell 0, (Bx.below q lxw4).cell 1, (Bx.below q lxw4).cell 2, (By.below q lyw4).cell 0, (By.below q lyw4).cell 1, (By.below q lyw4).cell 2⟩
  clear cx fx cy fy cf ff ch fh
  go_region_held3 (fun X => X.cell? ⟨w1.heap.size, 0, none⟩ = some (.int .i64 (58 * s + 2 * l)) ∧ X.cell? ⟨w1.heap.size, 1, none⟩ = some (.int .i64 (R * s + 2 * t)) ∧ X.cell? ⟨w1.heap.size, 2, none⟩ = some (.slice (some ⟨g1, 0, none⟩) N N) ∧
      X.cell? ⟨w2.heap.size, 0, none⟩ = some (.int .i64 (58 * s + 2 * l)) ∧ X.cell? ⟨w2.heap.size, 1, none⟩ = some (.int .i64 (R * s + 2 * t)) ∧ X.cell? ⟨w2.heap.size, 2, none⟩ = some (.slice (some ⟨g2, 0, none⟩) N N))
    (exact CS.out _ (by repeat (first | (with_reducible assumption) | (with_reducible exact Below.refl _ _) | (with_reducible refine Below.drew ?_) | (with_reducible refine below_drewN ?_ _) | ((with_reducible refine Below.alloc ?_ ?_ _); rotate_left; (focus (first | exact Nat.le_refl _ | omega | (simp; done) | (simp; omega) | (simp at *; omega)))) | ((with_reducible refine Below.setCell ?_ ?_ _); rotate_left; (focus (first | exact Nat.le_refl _ | omega | (simp; done) | (simp; omega) | (simp at *; omega)))))))
    (first
      | (go_at_call_of 33 g1
         refine (HP1.out _ g1 (R1.out _ (by repeat (first | (with_reducible assumption) | (with_reducible exact Below.refl _ _) | (with_reducible refine Below.drew ?_) | (with_reducible refine below_drewN ?_ _) | ((with_reducible refine Below.alloc ?_ ?_ _); rotate_left; (focus (first | exact Nat.le_refl _ | omega | (simp; done) | (simp; omega) | (simp at *; omega)))) | ((with_reducible refine Below.setCell ?_ ?_ _); rotate_left; (focus (first | exact Nat.le_refl _ | omega | (simp; done) | (simp; omega) | (simp at *; omega)))))))).mono ?_
         rintro e wa ⟨rfl, hbwa⟩
         have hzwa := hbwa.size
         try simp at hzwa
         have kwa : Below w.heap.size w wa := Below.trans (by repeat (first | (with_reducible assumption) | (with_reducible exact Below.refl _ _) | (with_reducible refine Below.drew ?_) | (with_reducible refine below_drewN ?_ _) | ((with_reducible refine Below.alloc ?_ ?_ _); rotate_left; (focus (first | exact Nat.le_refl _ | omega | (simp; done) | (simp; omega) | (simp at *; omega)))) | ((with_reducible refine Below.setCell ?_ ?_ _); rotate_left; (focus (first | exact Nat.le_refl _ | omega | (simp; done) | (simp; omega) | (simp at *; omega)))))) (hbwa.mono (by (focus (first | exact Nat.le_refl _ | omega | (simp; done) | (simp; omega) | (simp at *; omega)))))
         have kzwa := kwa.size
         have k1wa : Below w1.heap.size w1 wa := Below.trans (by repeat (first | (with_reducible assumption) | (with_reducible exact Below.refl _ _) | (with_reducible refine Below.drew ?_) | (with_reducible refine below_drewN ?_ _) | ((with_reducible refine Below.alloc ?_ ?_ _); rotate_left; (focus (first | exact Nat.le_refl _ | omega | (simp; done) | (simp; omega) | (simp at *; omega)))) | ((with_reducible refine Below.setCell ?_ ?_ _); rotate_left; (focus (first | exact Nat.le_refl _ | omega | (simp; done) | (simp; omega) | (simp at *; omega)))))) (hbwa.mono (by (focus (first | exact Nat.le_refl _ | omega | (simp; done) | (simp; omega) | (simp at *; omega)))))
         have k2wa : Below w2.heap.size w2 wa := Below.trans (by repeat (first | (with_reducible assumption) | (with_reducible exact Below.refl _ _) | (with_reducible refine Below.drew ?_) | (with_reducible refine below_drewN ?_ _) | ((with_reducible refine Below.alloc ?_ ?_ _); rotate_left; (focus (first | exact Nat.le_refl _ | omega | (simp; done) | (simp; omega) | (simp at *; omega)))) | ((with_reducible refine Below.setCell ?_ ?_ _); rotate_left; (focus (first | exact Nat.le_refl _ | omega | (simp; done) | (simp; omega) | (simp at *; omega)))))) (hbwa.mono (by (focus (first | exact Nat.le_refl _ | omega | (simp; done) | (simp; omega) | (simp at *; omega)))))
         have k4wa : Below w4.heap.size w4 wa := Below.trans (by repeat (first | (with_reducible assumption) | (with_reducible exact Below.refl _ _) | (with_reducible refine Below.drew ?_) | (with_reducible refine below_drewN ?_ _) | ((with_reducible refine Below.alloc ?_ ?_ _); rotate_left; (focus (first | exact Nat.le_refl _ | omega | (simp; done) | (simp; omega) | (simp at *; omega)))) | ((with_reducible refine Below.setCell ?_ ?_ _); rotate_left; (focus (first | exact Nat.le_refl _ | omega | (simp; done) | (simp; omega) | (simp at *; omega)))))) (hbwa.mono (by (focus (first | exact Nat.le_refl _ | omega | (simp; done) | (simp; omega) | (simp at *; omega))))))
      | (go_at_call_of 33 g2
         refine (HP2.out _ g2 (R2.out _ (by repeat (first | (with_reducible assumption) | (with_reducible exact Below.refl _ _) | (with_reducible refine Below.drew ?_) | (with_reducible refine below_drewN ?_ _) | ((with_reducible refine Below.alloc ?_ ?_ _); rotate_left; (focus (first | exact Nat.le_refl _ | omega | (simp; done) | (simp; omega) | (simp at *; omega)))) | ((with_reducible refine Below.setCell ?_ ?_ _); rotate_left; (focus (first | exact Nat.le_refl _ | omega | (simp; done) | (simp; omega) | (simp at *; omega)))))))).mono ?_
         rintro e wb ⟨rfl, hbwb⟩
         have hzwb := hbwb.size
         try simp at hzwb
         have kwb : Below w.heap.size w wb := Below.trans (by repeat (first | (with_reducible assumption) | (with_reducible exact Below.refl _ _) | (with_reducible refine Below.drew ?_) | (with_reducible refine below_drewN ?_ _) | ((with_reducible refine Below.alloc ?_ ?_ _); rotate_left; (focus (first | exact Nat.le_refl _ | omega | (simp; done) | (simp; omega) | (simp at *; omega)))) | ((with_reducible refine Below.setCell ?_ ?_ _); rotate_left; (focus (first | exact Nat.le_refl _ | omega | (simp; done) | (simp; omega) | (simp at *; omega)))))) (hbwb.mono (by (focus (first | exact Nat.le_refl _ | omega | (simp; done) | (simp; omega) | (simp at *; omega)))))
         have kzwb := kwb.size
         have k1wb : Below w1.heap.size w1 wb := Below.trans (by repeat (first | (with_reducible assumption) | (with_reducible exact Below.refl _ _) | (with_reducible refine Below.drew ?_) | (with_reducible refine below_drewN ?_ _) | ((with_reducible refine Below.alloc ?_ ?_ _); rotate_left; (focus (first | exact Nat.le_refl _ | omega | (simp; done) | (simp; omega) | (simp at *; omega)))) | ((with_reducible refine Below.setCell ?_ ?_ _); rotate_left; (focus (first | exact Nat.le_refl _ | omega | (simp; done) | (simp; omega) | (simp at *; omega)))))) (hbwb.mono (by (focus (first | exact Nat.le_refl _ | omega | (simp; done) | (simp; omega) | (simp at *; omega)))))
         have k2wb : Below w2.heap.size w2 wb := Below.trans (by repeat (first | (with_reducible assumption) | (with_reducible exact Below.refl _ _) | (with_reducible refine Below.drew ?_) | (with_reducible refine below_drewN ?_ _) | ((with_reducible refine Below.alloc ?_ ?_ _); rotate_left; (focus (first | exact Nat.le_refl _ | omega | (simp; done) | (simp; omega) | (simp at *; omega)))) | ((with_reducible refine Below.setCell ?_ ?_ _); rotate_left; (focus (first | exact Nat.le_refl _ | omega | (simp; done) | (simp; omega) | (simp at *; omega)))))) (hbwb.mono (by (focus (first | exact Nat.le_refl _ | omega | (simp; done) | (simp; omega) | (simp at *; omega)))))
         have k4wb : Below w4.heap.size w4 wb := Below.trans (by repeat (first | (with_reducible assumption) | (with_reducible exact Below.refl _ _) | (with_reducible refine Below.drew ?_) | (with_reducible refine below_drewN ?_ _) | ((with_reducible refine Below.alloc ?_ ?_ _); rotate_left; (focus (first | exact Nat.le_refl _ | omega | (simp; done) | (simp; omega) | (simp at *; omega)))) | ((with_reducible refine Below.setCell ?_ ?_ _); rotate_left; (focus (first | exact Nat.le_refl _ | omega | (simp; done) | (simp; omega) | (simp at *; omega)))))) (hbwb.mono (by (focus (first | exact Nat.le_refl _ | omega | (simp; done) | (simp; omega) | (simp at *; omega))))))
      | (go_at_call 54
         refine (bent_any _).mono ?_
         rintro e wc ⟨rfl, hbwc⟩
         have hzwc := hbwc.size
         try simp at hzwc
         have kwc : Below w.heap.size w wc := Below.trans (by repeat (first | (with_reducible assumption) | (with_reducible exact Below.refl _ _) | (with_reducible refine Below.drew ?_) | (with_reducible refine below_drewN ?_ _) | ((with_reducible refine Below.alloc ?_ ?_ _); rotate_left; (focus (first | exact Nat.le_refl _ | omega | (simp; done) | (simp; omega) | (simp at *; omega)))) | ((with_reducible refine Below.setCell ?_ ?_ _); rotate_left; (focus (first | exact Nat.le_refl _ | omega | (simp; done) | (simp; omega) | (simp at *; omega)))))) (hbwc.mono (by (focus (first | exact Nat.le_refl _ | omega | (simp; done) | (simp; omega) | (simp at *; omega)))))
         have kzwc := kwc.size
         have k4wc : Below w4.heap.size w4 wc := Below.trans (by repeat (first | (with_reducible assumption) | (with_reducible exact Below.refl _ _) | (with_reducible refine Below.drew ?_) | (with_reducible refine below_drewN ?_ _) | ((with_reducible refine Below.alloc ?_ ?_ _); rotate_left; (focus (first | exact Nat.le_refl _ | omega | (simp; done) | (simp; omega) | (simp at *; omega)))) | ((with_reducible refine Below.setCell ?_ ?_ _); rotate_left; (focus (first | exact Nat.le_refl _ | omega | (simp; done) | (simp; omega) | (simp at *; omega)))))) (hbwc.mono (by (focus (first | exact Nat.le_refl _ | omega | (simp; done) | (simp; omega) | (simp at *; omega)))))))
  all_goals
    go_wp2
    go_ret
    exact ⟨rfl, (by repeat (first | (with_reducible assumption) | (with_reducible exact Below.refl _ _) | (with_reducible refine Below.drew ?_) | (with_reducible refine below_drewN ?_ _) | ((with_reducible refine Below.alloc ?_ ?_ _); rotate_left; (focus (first | exact Nat.le_refl _ | omega | (simp; done) | (simp; omega) | (simp at *; omega)))) | ((with_reducible refine Below.setCell ?_ ?_ _); rotate_left; (focus (first | exact Nat.le_refl _ | omega | (simp; done) | (simp; omega) | (simp at *; omega))))))⟩

/-- The law, whatever the arguments. -/
theorem DistortSmearKeepsCentres_walk {w : World} (L R C : Int) (A : Option Addr) (n c : Nat) (p : Nat → Int) (hn : n ≤ maxLen) (hp : Byt p) (hr : RdB w A n p) (s : Int) (_hs : (Lit.int .i64 s).wf = true) (l : Int) (_hl : (Lit.int .i64 l).wf = true) (t : Int) (_ht : (Lit.int .i64 t).wf = true) (z : Int) (_hz : (Lit.int .i64 z).wf = true) :
    Calls Try.prog 19 #[gv L R C A n c, .int .i64 s, .int .i64 l, .int .i64 t, .int .i64 z] w fun e w' => e = .returned (.bool true) ∧ Below w.heap.size w w' := by
  rcases drawF_cases (gridF L R C n p) s l t with h | ⟨h, hs, hl, ht⟩
  · exact LKeep_bad A n c L R C s l t z p w hn hp hr h
  · rcases gridF_cases L R C n p with hg | hg
    · by_cases hz : z < 0 ∨ (n : Int) - 1 < z
      · exact LKeep_cell A n c L R C s l t z p w hn hp hr (by rw [gridF_ok hg]; exact drawF_0 rfl hs hl ht) hz
      · have hR : 53 ≤ R ∧ R ≤ 85 := by have := rowsOf_lv hg.lv; have := hg.rows; omega
        have hd := (draw_bd hs hl ht hR).2.2.2.2.1
        obtain ⟨y, rfl⟩ : ∃ y : Nat, z = y := ⟨z.toNat, by omega⟩
        exact LKeep_ok A n c ((58 * s + 2 * l) * (R * s + 2 * t)).toNat y L R C s l t p w hn hp hr hg hs hl ht (by omega) (by omega)
    · exact absurd h hg

end Go.Proofs.Ytpdjiokmafoppaa
