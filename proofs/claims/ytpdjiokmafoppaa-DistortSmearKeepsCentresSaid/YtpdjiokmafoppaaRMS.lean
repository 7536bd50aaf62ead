/- The walk of RenderMatchesSpec: it returns true and turns nothing that was there. Conditions: the cells and the pixels read as bytes. -/
import Derived.Test.YtpdjiokmafoppaaShown
namespace Go.Proofs.Ytpdjiokmafoppaa
open Go.RowKit

theorem maxLen_of {n : Nat} (h : n ≤ 140737488351232) : n ≤ maxLen := by unfold maxLen; omega
theorem sameI_refl (W H : Int) (n : Nat) (p : Nat → Int) : sameI W H n p W H n p = true := by simp [sameI, sameB]

set_option maxHeartbeats 2000000 in
theorem RMS_bad (A B : Option Addr) (n c m d : Nat) (L R C s l t W H : Int) (p : Nat → Int) (w : World) (hn : n ≤ maxLen) (hp : Byt p) (hr : RdB w A n p)
    (hb : (drawF (gridF L R C n p) s l t).1 ≠ 0) :
    Calls Try.prog 3 #[gv L R C A n c, .int .i64 s, .int .i64 l, .int .i64 t, iv W H B m d] w fun e w' => e = .returned (.bool true) ∧ Below w.heap.size w w' := by
  have H2 := rd_later hr
  clear hr
  have hsame : sameI 0 0 0 (fun _ => 0) 0 0 0 (fun _ => 0) = true := sameI_refl _ _ _ _
  obtain ⟨c0, i0, hci⟩ : ∃ c0 i0, drawF (gridF L R C n p) s l t = (c0, i0) := ⟨_, _, rfl⟩
  have hb0 : (c0 != 0) = true := by rw [hci] at hb; simpa using hb
  have HCI := Lib.hid hci
  have HB := Lib.hid hb
  clear hb hci
  go_enter Try.func3, Try.ntmps3
  go_wp2_with fail
  refine (Draw_bad A n c L R C s l t p _ hn hp (H2.out _ (by repeat (first | (with_reducible assumption) | (with_reducible exact Below.refl _ _) | (with_reducible refine Below.drew ?_) | (with_reducible refine below_drewN ?_ _) | ((with_reducible refine Below.alloc ?_ ?_ _); rotate_left; (focus (first | exact Nat.le_refl _ | omega | (simp; done) | (simp; omega) | (simp at *; omega)))) | ((with_reducible refine Below.setCell ?_ ?_ _); rotate_left; (focus (first | exact Nat.le_refl _ | omega | (simp; done) | (simp; omega) | (simp at *; omega))))))) HB.out).mono ?_
  rw [HCI.out]
  rintro e w1 ⟨rfl, hbw1⟩
  have hzw1 := hbw1.size
  try simp at hzw1
  have kw1 : Below w.heap.size w w1 := Below.trans (by repeat (first | (with_reducible assumption) | (with_reducible exact Below.refl _ _) | (with_reducible refine Below.drew ?_) | (with_reducible refine below_drewN ?_ _) | ((with_reducible refine Below.alloc ?_ ?_ _); rotate_left; (focus (first | exact Nat.le_refl _ | omega | (simp; done) | (simp; omega) | (simp at *; omega)))) | ((with_reducible refine Below.setCell ?_ ?_ _); rotate_left; (focus (first | exact Nat.le_refl _ | omega | (simp; done) | (simp; omega) | (simp at *; omega)))))) (hbw1.mono (by (focus (first | exact Nat.le_refl _ | omega | (simp; done) | (simp; omega) | (simp at *; omega)))))
  have kzw1 := kw1.size
  have Bgn : Blk w1 (w.heap.size) 24 #[.int .i64 L, .int .i64 R, .int .i64 C, .slice A n c] := Blk.below (by repeat (first | (with_reducible assumption) | (with_reducible exact Blk.new _ _ _) | ((with_reducible refine Blk.new_at _ _ _ ?_); (focus (first | (simp; done) | omega))) | (with_reducible refine Blk.drew ?_) | (with_reducible refine Blk.drewN ?_ _) | (with_reducible refine Blk.alloc ?_ _) | ((with_reducible refine Blk.far ?_ ?_ _); rotate_left; (focus (first | (simp; done) | (simp; omega) | omega))))) hbw1 (by (focus (first | omega | (simp; done) | (simp; omega) | (simp at *; omega))))
  try clear cg fg
  try clear Bg
  have Bg := Bgn
  clear Bgn
  have cg := Bg.cell
  have fg := Bg.frozen
  have lgw1 := Bg.lt
  have Bin : Blk w1 (w.heap.size + 1) 26 #[.int .i64 W, .int .i64 H, .slice B m d] := Blk.below (by repeat (first | (with_reducible assumption) | (with_reducible exact Blk.new _ _ _) | ((with_reducible refine Blk.new_at _ _ _ ?_); (focus (first | (simp; done) | omega))) | (with_reducible refine Blk.drew ?_) | (with_reducible refine Blk.drewN ?_ _) | (with_reducible refine Blk.alloc ?_ _) | ((with_reducible refine Blk.far ?_ ?_ _); rotate_left; (focus (first | (simp; done) | (simp; omega) | omega))))) hbw1 (by (focus (first | omega | (simp; done) | (simp; omega) | (simp at *; omega))))
  try clear ci fi
  try clear Bi
  have Bi := Bin
  clear Bin
  have ci := Bi.cell
  have fi := Bi.frozen
  have liw1 := Bi.lt
  have HS : Hid (∀ X, Below w1.heap.size w1 X → X.cell? ⟨w.heap.size + 1, 0, none⟩ = some (.int .i64 W) ∧ X.cell? ⟨w.heap.size + 1, 1, none⟩ = some (.int .i64 H) ∧ X.cell? ⟨w.heap.size + 1, 2, none⟩ = some (.slice B m d)) :=
    Lib.hid fun X h => ⟨(h.cell (p := ⟨w.heap.size + 1, 0, none⟩) liw1).trans (ci 0), (h.cell (p := ⟨w.heap.size + 1, 1, none⟩) liw1).trans (ci 1), (h.cell (p := ⟨w.heap.size + 1, 2, none⟩) liw1).trans (ci 2)⟩
  go_wp2_with fail
  go_region_held3 (fun w' => w'.cell? ⟨w.heap.size + 1, 0, none⟩ = some (.int .i64 W) ∧ w'.cell? ⟨w.heap.size + 1, 1, none⟩ = some (.int .i64 H) ∧ w'.cell? ⟨w.heap.size + 1, 2, none⟩ = some (.slice B m d))
    (exact HS.out _ (by repeat (first | (with_reducible assumption) | (with_reducible exact Below.refl _ _) | (with_reducible refine Below.drew ?_) | (with_reducible refine below_drewN ?_ _) | ((with_reducible refine Below.alloc ?_ ?_ _); rotate_left; (focus (first | exact Nat.le_refl _ | omega | (simp; done) | (simp; omega) | (simp at *; omega)))) | ((with_reducible refine Below.setCell ?_ ?_ _); rotate_left; (focus (first | exact Nat.le_refl _ | omega | (simp; done) | (simp; omega) | (simp at *; omega)))))))
    (first
      | (go_at_call 26
         refine (rValidate_any B m d W H _).mono ?_
         rintro e wa ⟨rfl, hbwa⟩
         obtain ⟨hcwa, hfwa⟩ := bcell hbwa
         have hzwa := hbwa.size
         try simp at hzwa
         have kwa : Below w.heap.size w wa := Below.trans (by repeat (first | (with_reducible assumption) | (with_reducible exact Below.refl _ _) | (with_reducible refine Below.drew ?_) | (with_reducible refine below_drewN ?_ _) | ((with_reducible refine Below.alloc ?_ ?_ _); rotate_left; (focus (first | exact Nat.le_refl _ | omega | (simp; done) | (simp; omega) | (simp at *; omega)))) | ((with_reducible refine Below.setCell ?_ ?_ _); rotate_left; (focus (first | exact Nat.le_refl _ | omega | (simp; done) | (simp; omega) | (simp at *; omega)))))) (hbwa.mono (by (focus (first | exact Nat.le_refl _ | omega | (simp; done) | (simp; omega) | (simp at *; omega)))))
         have kzwa := kwa.size
         have lwaw10 : w1.heap.size < wa.heap.size := by omega
         have lwaw11 : w1.heap.size + 1 < wa.heap.size := by omega
         have lwaw0 : w.heap.size < wa.heap.size := by omega
         have lwaw1 : w.heap.size + 1 < wa.heap.size := by omega
         have jwa : Below w1.heap.size w1 wa := Below.trans (by repeat (first | (with_reducible assumption) | (with_reducible exact Below.refl _ _) | (with_reducible refine Below.drew ?_) | (with_reducible refine below_drewN ?_ _) | ((with_reducible refine Below.alloc ?_ ?_ _); rotate_left; (focus (first | exact Nat.le_refl _ | omega | (simp; done) | (simp; omega) | (simp at *; omega)))) | ((with_reducible refine Below.setCell ?_ ?_ _); rotate_left; (focus (first | exact Nat.le_refl _ | omega | (simp; done) | (simp; omega) | (simp at *; omega)))))) (hbwa.mono (by (focus (first | exact Nat.le_refl _ | omega | (simp; done) | (simp; omega) | (simp at *; omega))))))
      | (go_at_call 27
         refine (ImageFault_any B m d W H _).mono ?_
         rintro e wb ⟨rfl, hbwb⟩
         obtain ⟨hcwb, hfwb⟩ := bcell hbwb
         have hzwb := hbwb.size
         try simp at hzwb
         have kwb : Below w.heap.size w wb := Below.trans (by repeat (first | (with_reducible assumption) | (with_reducible exact Below.refl _ _) | (with_reducible refine Below.drew ?_) | (with_reducible refine below_drewN ?_ _) | ((with_reducible refine Below.alloc ?_ ?_ _); rotate_left; (focus (first | exact Nat.le_refl _ | omega | (simp; done) | (simp; omega) | (simp at *; omega)))) | ((with_reducible refine Below.setCell ?_ ?_ _); rotate_left; (focus (first | exact Nat.le_refl _ | omega | (simp; done) | (simp; omega) | (simp at *; omega)))))) (hbwb.mono (by (focus (first | exact Nat.le_refl _ | omega | (simp; done) | (simp; omega) | (simp at *; omega)))))
         have kzwb := kwb.size
         have lwbw10 : w1.heap.size < wb.heap.size := by omega
         have lwbw11 : w1.heap.size + 1 < wb.heap.size := by omega
         have lwbw0 : w.heap.size < wb.heap.size := by omega
         have lwbw1 : w.heap.size + 1 < wb.heap.size := by omega
         have jwb : Below w1.heap.size w1 wb := Below.trans (by repeat (first | (with_reducible assumption) | (with_reducible exact Below.refl _ _) | (with_reducible refine Below.drew ?_) | (with_reducible refine below_drewN ?_ _) | ((with_reducible refine Below.alloc ?_ ?_ _); rotate_left; (focus (first | exact Nat.le_refl _ | omega | (simp; done) | (simp; omega) | (simp at *; omega)))) | ((with_reducible refine Below.setCell ?_ ?_ _); rotate_left; (focus (first | exact Nat.le_refl _ | omega | (simp; done) | (simp; omega) | (simp at *; omega)))))) (hbwb.mono (by (focus (first | exact Nat.le_refl _ | omega | (simp; done) | (simp; omega) | (simp at *; omega)))))))
  go_wp2_with fail
  refine (DrawFault_any A n c L R C s l t p _ hn hp (H2.out _ (by repeat (first | (with_reducible assumption) | (with_reducible exact Below.refl _ _) | (with_reducible refine Below.drew ?_) | (with_reducible refine below_drewN ?_ _) | ((with_reducible refine Below.alloc ?_ ?_ _); rotate_left; (focus (first | exact Nat.le_refl _ | omega | (simp; done) | (simp; omega) | (simp at *; omega)))) | ((with_reducible refine Below.setCell ?_ ?_ _); rotate_left; (focus (first | exact Nat.le_refl _ | omega | (simp; done) | (simp; omega) | (simp at *; omega)))))))).mono ?_
  rw [HCI.out]
  rintro e w4 ⟨rfl, hbw4⟩
  obtain ⟨hcw4, hfw4⟩ := bcell hbw4
  have hzw4 := hbw4.size
  try simp at hzw4
  have kw4 : Below w.heap.size w w4 := Below.trans (by repeat (first | (with_reducible assumption) | (with_reducible exact Below.refl _ _) | (with_reducible refine Below.drew ?_) | (with_reducible refine below_drewN ?_ _) | ((with_reducible refine Below.alloc ?_ ?_ _); rotate_left; (focus (first | exact Nat.le_refl _ | omega | (simp; done) | (simp; omega) | (simp at *; omega)))) | ((with_reducible refine Below.setCell ?_ ?_ _); rotate_left; (focus (first | exact Nat.le_refl _ | omega | (simp; done) | (simp; omega) | (simp at *; omega)))))) (hbw4.mono (by (focus (first | exact Nat.le_refl _ | omega | (simp; done) | (simp; omega) | (simp at *; omega)))))
  have kzw4 := kw4.size
  have lw4w10 : w1.heap.size < w4.heap.size := by omega
  have lw4w11 : w1.heap.size + 1 < w4.heap.size := by omega
  have lw4w0 : w.heap.size < w4.heap.size := by omega
  have lw4w1 : w.heap.size + 1 < w4.heap.size := by omega
  go_wp2_with fail
  refine (SameImage_any none none 0 0 0 0 0 0 0 0 (fun _ => 0) (fun _ => 0) _ Rd.zero Rd.zero).mono ?_
  rw [hsame]
  rintro e w5 ⟨rfl, hbw5⟩
  have hzw5 := hbw5.size
  try simp at hzw5
  have kw5 : Below w.heap.size w w5 := Below.trans (by repeat (first | (with_reducible assumption) | (with_reducible exact Below.refl _ _) | (with_reducible refine Below.drew ?_) | (with_reducible refine below_drewN ?_ _) | ((with_reducible refine Below.alloc ?_ ?_ _); rotate_left; (focus (first | exact Nat.le_refl _ | omega | (simp; done) | (simp; omega) | (simp at *; omega)))) | ((with_reducible refine Below.setCell ?_ ?_ _); rotate_left; (focus (first | exact Nat.le_refl _ | omega | (simp; done) | (simp; omega) | (simp at *; omega)))))) (hbw5.mono (by (focus (first | exact Nat.le_refl _ | omega | (simp; done) | (simp; omega) | (simp at *; omega)))))
  have kzw5 := kw5.size
  go_wp2_with fail
  refine (drawn_any _).mono ?_
  rintro e w6 ⟨rfl, hbw6⟩
  have hzw6 := hbw6.size
  try simp at hzw6
  have kw6 : Below w.heap.size w w6 := Below.trans (by repeat (first | (with_reducible assumption) | (with_reducible exact Below.refl _ _) | (with_reducible refine Below.drew ?_) | (with_reducible refine below_drewN ?_ _) | ((with_reducible refine Below.alloc ?_ ?_ _); rotate_left; (focus (first | exact Nat.le_refl _ | omega | (simp; done) | (simp; omega) | (simp at *; omega)))) | ((with_reducible refine Below.setCell ?_ ?_ _); rotate_left; (focus (first | exact Nat.le_refl _ | omega | (simp; done) | (simp; omega) | (simp at *; omega)))))) (hbw6.mono (by (focus (first | exact Nat.le_refl _ | omega | (simp; done) | (simp; omega) | (simp at *; omega)))))
  have kzw6 := kw6.size
  go_wp2
  go_ret
  exact ⟨rfl, (by repeat (first | (with_reducible assumption) | (with_reducible exact Below.refl _ _) | (with_reducible refine Below.drew ?_) | (with_reducible refine below_drewN ?_ _) | ((with_reducible refine Below.alloc ?_ ?_ _); rotate_left; (focus (first | exact Nat.le_refl _ | omega | (simp; done) | (simp; omega) | (simp at *; omega)))) | ((with_reducible refine Below.setCell ?_ ?_ _); rotate_left; (focus (first | exact Nat.le_refl _ | omega | (simp; done) | (simp; omega) | (simp at *; omega))))))⟩

theorem SameImage_eq (A B : Option Addr) (n c d : Nat) (W H : Int) (p : Nat → Int) (w : World) (h1 : RdB w A n p) (h2 : RdB w B n p) :
    Calls Try.prog 29 #[iv W H A n c, iv W H B n d] w fun e w' => e = .returned (.bool true) ∧ Below w.heap.size w w' := by
  have := SameImage_any A B n c n d W H W H p p w h1 h2
  rw [sameI_refl] at this
  exact this

set_option maxHeartbeats 4000000 in
theorem RMS_ok (A B : Option Addr) (n c m d N : Nat) (L R C s l t W H : Int) (p : Nat → Int) (w : World) (hn : n ≤ maxLen) (hp : Byt p) (hr : RdB w A n p) (hg : GridOk L R C n p) (hs : 3 ≤ s ∧ s ≤ 6) (hl : 2 ≤ l ∧ l ≤ 40) (ht : 2 ≤ t ∧ t ≤ 40)
    (hN : (N : Int) = (58 * s + 2 * l) * (R * s + 2 * t)) :
    Calls Try.prog 3 #[gv L R C A n c, .int .i64 s, .int .i64 l, .int .i64 t, iv W H B m d] w fun e w' => e = .returned (.bool true) ∧ Below w.heap.size w w' := by
  have H2 := rd_later hr
  clear hr
  have HD : Hid (drawF (gridF L R C n p) s l t = (0, 0)) := Lib.hid (by rw [gridF_ok hg]; exact drawF_0 rfl hs hl ht)
  have HG := Lib.hid hg
  have HN := Lib.hid hN
  clear hg hN
  go_enter Try.func3, Try.ntmps3
  go_wp2_with fail
  refine (Draw_ok A n c N L R C s l t p _ HG.out hp (H2.out _ (by repeat (first | (with_reducible assumption) | (with_reducible exact Below.refl _ _) | (with_reducible refine Below.drew ?_) | (with_reducible refine below_drewN ?_ _) | ((with_reducible refine Below.alloc ?_ ?_ _); rotate_left; (focus (first | exact Nat.le_refl _ | omega | (simp; done) | (simp; omega) | (simp at *; omega)))) | ((with_reducible refine Below.setCell ?_ ?_ _); rotate_left; (focus (first | exact Nat.le_refl _ | omega | (simp; done) | (simp; omega) | (simp at *; omega))))))) hs hl ht HN.out).mono ?_
  rintro e w1 ⟨g0, rfl, hg0, hrow, hbw1⟩
  have H3 := rd_later (Rd.of_row hrow)
  clear hrow
  have hzw1 := hbw1.size
  try simp at hzw1
  have kw1 : Below w.heap.size w w1 := Below.trans (by repeat (first | (with_reducible assumption) | (with_reducible exact Below.refl _ _) | (with_reducible refine Below.drew ?_) | (with_reducible refine below_drewN ?_ _) | ((with_reducible refine Below.alloc ?_ ?_ _); rotate_left; (focus (first | exact Nat.le_refl _ | omega | (simp; done) | (simp; omega) | (simp at *; omega)))) | ((with_reducible refine Below.setCell ?_ ?_ _); rotate_left; (focus (first | exact Nat.le_refl _ | omega | (simp; done) | (simp; omega) | (simp at *; omega)))))) (hbw1.mono (by (focus (first | exact Nat.le_refl _ | omega | (simp; done) | (simp; omega) | (simp at *; omega)))))
  have kzw1 := kw1.size
  have Bgn : Blk w1 (w.heap.size) 24 #[.int .i64 L, .int .i64 R, .int .i64 C, .slice A n c] := Blk.below (by repeat (first | (with_reducible assumption) | (with_reducible exact Blk.new _ _ _) | ((with_reducible refine Blk.new_at _ _ _ ?_); (focus (first | (simp; done) | omega))) | (with_reducible refine Blk.drew ?_) | (with_reducible refine Blk.drewN ?_ _) | (with_reducible refine Blk.alloc ?_ _) | ((with_reducible refine Blk.far ?_ ?_ _); rotate_left; (focus (first | (simp; done) | (simp; omega) | omega))))) hbw1 (by (focus (first | omega | (simp; done) | (simp; omega) | (simp at *; omega))))
  try clear cg fg
  try clear Bg
  have Bg := Bgn
  clear Bgn
  have cg := Bg.cell
  have fg := Bg.frozen
  have lgw1 := Bg.lt
  have Bin : Blk w1 (w.heap.size + 1) 26 #[.int .i64 W, .int .i64 H, .slice B m d] := Blk.below (by repeat (first | (with_reducible assumption) | (with_reducible exact Blk.new _ _ _) | ((with_reducible refine Blk.new_at _ _ _ ?_); (focus (first | (simp; done) | omega))) | (with_reducible refine Blk.drew ?_) | (with_reducible refine Blk.drewN ?_ _) | (with_reducible refine Blk.alloc ?_ _) | ((with_reducible refine Blk.far ?_ ?_ _); rotate_left; (focus (first | (simp; done) | (simp; omega) | omega))))) hbw1 (by (focus (first | omega | (simp; done) | (simp; omega) | (simp at *; omega))))
  try clear ci fi
  try clear Bi
  have Bi := Bin
  clear Bin
  have ci := Bi.cell
  have fi := Bi.frozen
  have liw1 := Bi.lt
  have HS : Hid (∀ X, Below w1.heap.size w1 X → X.cell? ⟨w.heap.size + 1, 0, none⟩ = some (.int .i64 W) ∧ X.cell? ⟨w.heap.size + 1, 1, none⟩ = some (.int .i64 H) ∧ X.cell? ⟨w.heap.size + 1, 2, none⟩ = some (.slice B m d)) :=
    Lib.hid fun X h => ⟨(h.cell (p := ⟨w.heap.size + 1, 0, none⟩) liw1).trans (ci 0), (h.cell (p := ⟨w.heap.size + 1, 1, none⟩) liw1).trans (ci 1), (h.cell (p := ⟨w.heap.size + 1, 2, none⟩) liw1).trans (ci 2)⟩
  go_wp2_with fail
  go_region_held3 (fun w' => w'.cell? ⟨w.heap.size + 1, 0, none⟩ = some (.int .i64 W) ∧ w'.cell? ⟨w.heap.size + 1, 1, none⟩ = some (.int .i64 H) ∧ w'.cell? ⟨w.heap.size + 1, 2, none⟩ = some (.slice B m d))
    (exact HS.out _ (by repeat (first | (with_reducible assumption) | (with_reducible exact Below.refl _ _) | (with_reducible refine Below.drew ?_) | (with_reducible refine below_drewN ?_ _) | ((with_reducible refine Below.alloc ?_ ?_ _); rotate_left; (focus (first | exact Nat.le_refl _ | omega | (simp; done) | (simp; omega) | (simp at *; omega)))) | ((with_reducible refine Below.setCell ?_ ?_ _); rotate_left; (focus (first | exact Nat.le_refl _ | omega | (simp; done) | (simp; omega) | (simp at *; omega)))))))
    (first
      | (go_at_call 26
         refine (rValidate_any B m d W H _).mono ?_
         rintro e wa ⟨rfl, hbwa⟩
         have hzwa := hbwa.size
         try simp at hzwa
         have kwa : Below w.heap.size w wa := Below.trans (by repeat (first | (with_reducible assumption) | (with_reducible exact Below.refl _ _) | (with_reducible refine Below.drew ?_) | (with_reducible refine below_drewN ?_ _) | ((with_reducible refine Below.alloc ?_ ?_ _); rotate_left; (focus (first | exact Nat.le_refl _ | omega | (simp; done) | (simp; omega) | (simp at *; omega)))) | ((with_reducible refine Below.setCell ?_ ?_ _); rotate_left; (focus (first | exact Nat.le_refl _ | omega | (simp; done) | (simp; omega) | (simp at *; omega)))))) (hbwa.mono (by (focus (first | exact Nat.le_refl _ | omega | (simp; done) | (simp; omega) | (simp at *; omega)))))
         have kzwa := kwa.size
         have Bgn : Blk wa (w.heap.size) 24 #[.int .i64 L, .int .i64 R, .int .i64 C, .slice A n c] := Blk.below (by repeat (first | (with_reducible assumption) | (with_reducible exact Blk.new _ _ _) | ((with_reducible refine Blk.new_at _ _ _ ?_); (focus (first | (simp; done) | omega))) | (with_reducible refine Blk.drew ?_) | (with_reducible refine Blk.drewN ?_ _) | (with_reducible refine Blk.alloc ?_ _) | ((with_reducible refine Blk.far ?_ ?_ _); rotate_left; (focus (first | (simp; done) | (simp; omega) | omega))))) hbwa (by (focus (first | omega | (simp; done) | (simp; omega) | (simp at *; omega))))
         try clear cg fg
         try clear Bg
         have Bg := Bgn
         clear Bgn
         have cg := Bg.cell
         have fg := Bg.frozen
         have lgwa := Bg.lt
         have Bxn : Blk wa (w1.heap.size) 26 #[.int .i64 (58 * s + 2 * l), .int .i64 (R * s + 2 * t), .slice (some ⟨g0, 0, none⟩) N N] := Blk.below (by repeat (first | (with_reducible assumption) | (with_reducible exact Blk.new _ _ _) | ((with_reducible refine Blk.new_at _ _ _ ?_); (focus (first | (simp; done) | omega))) | (with_reducible refine Blk.drew ?_) | (with_reducible refine Blk.drewN ?_ _) | (with_reducible refine Blk.alloc ?_ _) | ((with_reducible refine Blk.far ?_ ?_ _); rotate_left; (focus (first | (simp; done) | (simp; omega) | omega))))) hbwa (by (focus (first | omega | (simp; done) | (simp; omega) | (simp at *; omega))))
         try clear cx fx
         try clear Bx
         have Bx := Bxn
         clear Bxn
         have cx := Bx.cell
         have fx := Bx.frozen
         have lxwa := Bx.lt
         have Byn : Blk wa (w1.heap.size + 1) 28 #[.int .i64 0, .int .i64 0] := Blk.below (by repeat (first | (with_reducible assumption) | (with_reducible exact Blk.new _ _ _) | ((with_reducible refine Blk.new_at _ _ _ ?_); (focus (first | (simp; done) | omega))) | (with_reducible refine Blk.drew ?_) | (with_reducible refine Blk.drewN ?_ _) | (with_reducible refine Blk.alloc ?_ _) | ((with_reducible refine Blk.far ?_ ?_ _); rotate_left; (focus (first | (simp; done) | (simp; omega) | omega))))) hbwa (by (focus (first | omega | (simp; done) | (simp; omega) | (simp at *; omega))))
         try clear cy fy
         try clear By
         have By := Byn
         clear Byn
         have cy := By.cell
         have fy := By.frozen
         have lywa := By.lt
         have jwa : Below w1.heap.size w1 wa := Below.trans (by repeat (first | (with_reducible assumption) | (with_reducible exact Below.refl _ _) | (with_reducible refine Below.drew ?_) | (with_reducible refine below_drewN ?_ _) | ((with_reducible refine Below.alloc ?_ ?_ _); rotate_left; (focus (first | exact Nat.le_refl _ | omega | (simp; done) | (simp; omega) | (simp at *; omega)))) | ((with_reducible refine Below.setCell ?_ ?_ _); rotate_left; (focus (first | exact Nat.le_refl _ | omega | (simp; done) | (simp; omega) | (simp at *; omega)))))) (hbwa.mono (by (focus (first | exact Nat.le_refl _ | omega | (simp; done) | (simp; omega) | (simp at *; omega))))))
      | (go_at_call 27
         refine (ImageFault_any B m d W H _).mono ?_
         rintro e wb ⟨rfl, hbwb⟩
         have hzwb := hbwb.size
         try simp at hzwb
         have kwb : Below w.heap.size w wb := Below.trans (by repeat (first | (with_reducible assumption) | (with_reducible exact Below.refl _ _) | (with_reducible refine Below.drew ?_) | (with_reducible refine below_drewN ?_ _) | ((with_reducible refine Below.alloc ?_ ?_ _); rotate_left; (focus (first | exact Nat.le_refl _ | omega | (simp; done) | (simp; omega) | (simp at *; omega)))) | ((with_reducible refine Below.setCell ?_ ?_ _); rotate_left; (focus (first | exact Nat.le_refl _ | omega | (simp; done) | (simp; omega) | (simp at *; omega)))))) (hbwb.mono (by (focus (first | exact Nat.le_refl _ | omega | (simp; done) | (simp; omega) | (simp at *; omega)))))
         have kzwb := kwb.size
         have Bgn : Blk wb (w.heap.size) 24 #[.int .i64 L, .int .i64 R, .int .i64 C, .slice A n c] := Blk.below (by repeat (first | (with_reducible assumption) | (with_reducible exact Blk.new _ _ _) | ((with_reducible refine Blk.new_at _ _ _ ?_); (focus (first | (simp; done) | omega))) | (with_reducible refine Blk.drew ?_) | (with_reducible refine Blk.drewN ?_ _) | (with_reducible refine Blk.alloc ?_ _) | ((with_reducible refine Blk.far ?_ ?_ _); rotate_left; (focus (first | (simp; done) | (simp; omega) | omega))))) hbwb (by (focus (first | omega | (simp; done) | (simp; omega) | (simp at *; omega))))
         try clear cg fg
         try clear Bg
         have Bg := Bgn
         clear Bgn
         have cg := Bg.cell
         have fg := Bg.frozen
         have lgwb := Bg.lt
         have Bxn : Blk wb (w1.heap.size) 26 #[.int .i64 (58 * s + 2 * l), .int .i64 (R * s + 2 * t), .slice (some ⟨g0, 0, none⟩) N N] := Blk.below (by repeat (first | (with_reducible assumption) | (with_reducible exact Blk.new _ _ _) | ((with_reducible refine Blk.new_at _ _ _ ?_); (focus (first | (simp; done) | omega))) | (with_reducible refine Blk.drew ?_) | (with_reducible refine Blk.drewN ?_ _) | (with_reducible refine Blk.alloc ?_ _) | ((with_reducible refine Blk.far ?_ ?_ _); rotate_left; (focus (first | (simp; done) | (simp; omega) | omega))))) hbwb (by (focus (first | omega | (simp; done) | (simp; omega) | (simp at *; omega))))
         try clear cx fx
         try clear Bx
         have Bx := Bxn
         clear Bxn
         have cx := Bx.cell
         have fx := Bx.frozen
         have lxwb := Bx.lt
         have Byn : Blk wb (w1.heap.size + 1) 28 #[.int .i64 0, .int .i64 0] := Blk.below (by repeat (first | (with_reducible assumption) | (with_reducible exact Blk.new _ _ _) | ((with_reducible refine Blk.new_at _ _ _ ?_); (focus (first | (simp; done) | omega))) | (with_reducible refine Blk.drew ?_) | (with_reducible refine Blk.drewN ?_ _) | (with_reducible refine Blk.alloc ?_ _) | ((with_reducible refine Blk.far ?_ ?_ _); rotate_left; (focus (first | (simp; done) | (simp; omega) | omega))))) hbwb (by (focus (first | omega | (simp; done) | (simp; omega) | (simp at *; omega))))
         try clear cy fy
         try clear By
         have By := Byn
         clear Byn
         have cy := By.cell
         have fy := By.frozen
         have lywb := By.lt
         have jwb : Below w1.heap.size w1 wb := Below.trans (by repeat (first | (with_reducible assumption) | (with_reducible exact Below.refl _ _) | (with_reducible refine Below.drew ?_) | (with_reducible refine below_drewN ?_ _) | ((with_reducible refine Below.alloc ?_ ?_ _); rotate_left; (focus (first | exact Nat.le_refl _ | omega | (simp; done) | (simp; omega) | (simp at *; omega)))) | ((with_reducible refine Below.setCell ?_ ?_ _); rotate_left; (focus (first | exact Nat.le_refl _ | omega | (simp; done) | (simp; omega) | (simp at *; omega)))))) (hbwb.mono (by (focus (first | exact Nat.le_refl _ | omega | (simp; done) | (simp; omega) | (simp at *; omega)))))))
  go_wp2_with fail
  refine (DrawFault_any A n c L R C s l t p _ hn hp (H2.out _ (by repeat (first | (with_reducible assumption) | (with_reducible exact Below.refl _ _) | (with_reducible refine Below.drew ?_) | (with_reducible refine below_drewN ?_ _) | ((with_reducible refine Below.alloc ?_ ?_ _); rotate_left; (focus (first | exact Nat.le_refl _ | omega | (simp; done) | (simp; omega) | (simp at *; omega)))) | ((with_reducible refine Below.setCell ?_ ?_ _); rotate_left; (focus (first | exact Nat.le_refl _ | omega | (simp; done) | (simp; omega) | (simp at *; omega)))))))).mono ?_
  rw [HD.out]
  rintro e w4 ⟨rfl, hbw4⟩
  have hzw4 := hbw4.size
  try simp at hzw4
  have kw4 : Below w.heap.size w w4 := Below.trans (by repeat (first | (with_reducible assumption) | (with_reducible exact Below.refl _ _) | (with_reducible refine Below.drew ?_) | (with_reducible refine below_drewN ?_ _) | ((with_reducible refine Below.alloc ?_ ?_ _); rotate_left; (focus (first | exact Nat.le_refl _ | omega | (simp; done) | (simp; omega) | (simp at *; omega)))) | ((with_reducible refine Below.setCell ?_ ?_ _); rotate_left; (focus (first | exact Nat.le_refl _ | omega | (simp; done) | (simp; omega) | (simp at *; omega)))))) (hbw4.mono (by (focus (first | exact Nat.le_refl _ | omega | (simp; done) | (simp; omega) | (simp at *; omega)))))
  have kzw4 := kw4.size
  have Bgn : Blk w4 (w.heap.size) 24 #[.int .i64 L, .int .i64 R, .int .i64 C, .slice A n c] := Blk.below (by repeat (first | (with_reducible assumption) | (with_reducible exact Blk.new _ _ _) | ((with_reducible refine Blk.new_at _ _ _ ?_); (focus (first | (simp; done) | omega))) | (with_reducible refine Blk.drew ?_) | (with_reducible refine Blk.drewN ?_ _) | (with_reducible refine Blk.alloc ?_ _) | ((with_reducible refine Blk.far ?_ ?_ _); rotate_left; (focus (first | (simp; done) | (simp; omega) | omega))))) hbw4 (by (focus (first | omega | (simp; done) | (simp; omega) | (simp at *; omega))))
  try clear cg fg
  try clear Bg
  have Bg := Bgn
  clear Bgn
  have cg := Bg.cell
  have fg := Bg.frozen
  have lgw4 := Bg.lt
  have Bxn : Blk w4 (w1.heap.size) 26 #[.int .i64 (58 * s + 2 * l), .int .i64 (R * s + 2 * t), .slice (some ⟨g0, 0, none⟩) N N] := Blk.below (by repeat (first | (with_reducible assumption) | (with_reducible exact Blk.new _ _ _) | ((with_reducible refine Blk.new_at _ _ _ ?_); (focus (first | (simp; done) | omega))) | (with_reducible refine Blk.drew ?_) | (with_reducible refine Blk.drewN ?_ _) | (with_reducible refine Blk.alloc ?_ _) | ((with_reducible refine Blk.far ?_ ?_ _); rotate_left; (focus (first | (simp; done) | (simp; omega) | omega))))) hbw4 (by (focus (first | omega | (simp; done) | (simp; omega) | (simp at *; omega))))
  try clear cx fx
  try clear Bx
  have Bx := Bxn
  clear Bxn
  have cx := Bx.cell
  have fx := Bx.frozen
  have lxw4 := Bx.lt
  have Byn : Blk w4 (w1.heap.size + 1) 28 #[.int .i64 0, .int .i64 0] := Blk.below (by repeat (first | (with_reducible assumption) | (with_reducible exact Blk.new _ _ _) | ((with_reducible refine Blk.new_at _ _ _ ?_); (focus (first | (simp; done) | omega))) | (with_reducible refine Blk.drew ?_) | (with_reducible refine Blk.drewN ?_ _) | (with_reducible refine Blk.alloc ?_ _) | ((with_reducible refine Blk.far ?_ ?_ _); rotate_left; (focus (first | (simp; done) | (simp; omega) | omega))))) hbw4 (by (focus (first | omega | (simp; done) | (simp; omega) | (simp at *; omega))))
  try clear cy fy
  try clear By
  have By := Byn
  clear Byn
  have cy := By.cell
  have fy := By.frozen
  have lyw4 := By.lt
  have jw4 : Below w1.heap.size w1 w4 := Below.trans (by repeat (first | (with_reducible assumption) | (with_reducible exact Below.refl _ _) | (with_reducible refine Below.drew ?_) | (with_reducible refine below_drewN ?_ _) | ((with_reducible refine Below.alloc ?_ ?_ _); rotate_left; (focus (first | exact Nat.le_refl _ | omega | (simp; done) | (simp; omega) | (simp at *; omega)))) | ((with_reducible refine Below.setCell ?_ ?_ _); rotate_left; (focus (first | exact Nat.le_refl _ | omega | (simp; done) | (simp; omega) | (simp at *; omega)))))) (hbw4.mono (by (focus (first | exact Nat.le_refl _ | omega | (simp; done) | (simp; omega) | (simp at *; omega)))))
  have HS4 : Hid (∀ X, Below w4.heap.size w4 X → X.cell? ⟨w1.heap.size + 1, 0, none⟩ = some (.int .i64 0) ∧
      X.cell? ⟨w1.heap.size, 0, none⟩ = some (.int .i64 (58 * s + 2 * l)) ∧ X.cell? ⟨w1.heap.size, 1, none⟩ = some (.int .i64 (R * s + 2 * t)) ∧ X.cell? ⟨w1.heap.size, 2, none⟩ = some (.slice (some ⟨g0, 0, none⟩) N N) ∧
      X.cell? ⟨w.heap.size, 0, none⟩ = some (.int .i64 L) ∧ X.cell? ⟨w.heap.size, 1, none⟩ = some (.int .i64 R) ∧ X.cell? ⟨w.heap.size, 2, none⟩ = some (.int .i64 C) ∧ X.cell? ⟨w.heap.size, 3, none⟩ = some (.slice A n c)) :=
    Lib.hid fun X h => ⟨(h.cell (p := ⟨w1.heap.size + 1, 0, none⟩) lyw4).trans (cy 0), (h.cell (p := ⟨w1.heap.size, 0, none⟩) lxw4).trans (cx 0), (h.cell (p := ⟨w1.heap.size, 1, none⟩) lxw4).trans (cx 1), (h.cell (p := ⟨w1.heap.size, 2, none⟩) lxw4).trans (cx 2),
      (h.cell (p := ⟨w.heap.size, 0, none⟩) lgw4).trans (cg 0), (h.cell (p := ⟨w.heap.size, 1, none⟩) lgw4).trans (cg 1), (h.cell (p := ⟨w.heap.size, 2, none⟩) lgw4).trans (cg 2), (h.cell (p := ⟨w.heap.size, 3, none⟩) lgw4).trans (cg 3)⟩
  clear HS hbwa hbwb hbw4
  go_wp2_with fail
  go_region_held3 (fun X => X.cell? ⟨w1.heap.size + 1, 0, none⟩ = some (.int .i64 0) ∧
      X.cell? ⟨w1.heap.size, 0, none⟩ = some (.int .i64 (58 * s + 2 * l)) ∧ X.cell? ⟨w1.heap.size, 1, none⟩ = some (.int .i64 (R * s + 2 * t)) ∧ X.cell? ⟨w1.heap.size, 2, none⟩ = some (.slice (some ⟨g0, 0, none⟩) N N) ∧
      X.cell? ⟨w.heap.size, 0, none⟩ = some (.int .i64 L) ∧ X.cell? ⟨w.heap.size, 1, none⟩ = some (.int .i64 R) ∧ X.cell? ⟨w.heap.size, 2, none⟩ = some (.int .i64 C) ∧ X.cell? ⟨w.heap.size, 3, none⟩ = some (.slice A n c))
    (exact HS4.out _ (by repeat (first | (with_reducible assumption) | (with_reducible exact Below.refl _ _) | (with_reducible refine Below.drew ?_) | (with_reducible refine below_drewN ?_ _) | ((with_reducible refine Below.alloc ?_ ?_ _); rotate_left; (focus (first | exact Nat.le_refl _ | omega | (simp; done) | (simp; omega) | (simp at *; omega)))) | ((with_reducible refine Below.setCell ?_ ?_ _); rotate_left; (focus (first | exact Nat.le_refl _ | omega | (simp; done) | (simp; omega) | (simp at *; omega)))))))
    (first
      | (go_at_call 31
         refine (Drawn_ok A n c N L R C s l t p _ HG.out hp (H2.out _ (by repeat (first | (with_reducible assumption) | (with_reducible exact Below.refl _ _) | (with_reducible refine Below.drew ?_) | (with_reducible refine below_drewN ?_ _) | ((with_reducible refine Below.alloc ?_ ?_ _); rotate_left; (focus (first | exact Nat.le_refl _ | omega | (simp; done) | (simp; omega) | (simp at *; omega)))) | ((with_reducible refine Below.setCell ?_ ?_ _); rotate_left; (focus (first | exact Nat.le_refl _ | omega | (simp; done) | (simp; omega) | (simp at *; omega))))))) hs hl ht HN.out).mono ?_
         rintro e wd ⟨gd, rfl, hgd, hrowd, hbwd⟩
         have H4 := rd_later (Rd.of_row hrowd)
         clear hrowd
         have hzwd := hbwd.size
         try simp at hzwd
         have kwd : Below w.heap.size w wd := Below.trans (by repeat (first | (with_reducible assumption) | (with_reducible exact Below.refl _ _) | (with_reducible refine Below.drew ?_) | (with_reducible refine below_drewN ?_ _) | ((with_reducible refine Below.alloc ?_ ?_ _); rotate_left; (focus (first | exact Nat.le_refl _ | omega | (simp; done) | (simp; omega) | (simp at *; omega)))) | ((with_reducible refine Below.setCell ?_ ?_ _); rotate_left; (focus (first | exact Nat.le_refl _ | omega | (simp; done) | (simp; omega) | (simp at *; omega)))))) (hbwd.mono (by (focus (first | exact Nat.le_refl _ | omega | (simp; done) | (simp; omega) | (simp at *; omega)))))
         have kzwd := kwd.size
         have jwd : Below w4.heap.size w4 wd := Below.trans (by repeat (first | (with_reducible assumption) | (with_reducible exact Below.refl _ _) | (with_reducible refine Below.drew ?_) | (with_reducible refine below_drewN ?_ _) | ((with_reducible refine Below.alloc ?_ ?_ _); rotate_left; (focus (first | exact Nat.le_refl _ | omega | (simp; done) | (simp; omega) | (simp at *; omega)))) | ((with_reducible refine Below.setCell ?_ ?_ _); rotate_left; (focus (first | exact Nat.le_refl _ | omega | (simp; done) | (simp; omega) | (simp at *; omega)))))) (hbwd.mono (by (focus (first | exact Nat.le_refl _ | omega | (simp; done) | (simp; omega) | (simp at *; omega)))))
         have iwd : Below w1.heap.size w1 wd := Below.trans (by repeat (first | (with_reducible assumption) | (with_reducible exact Below.refl _ _) | (with_reducible refine Below.drew ?_) | (with_reducible refine below_drewN ?_ _) | ((with_reducible refine Below.alloc ?_ ?_ _); rotate_left; (focus (first | exact Nat.le_refl _ | omega | (simp; done) | (simp; omega) | (simp at *; omega)))) | ((with_reducible refine Below.setCell ?_ ?_ _); rotate_left; (focus (first | exact Nat.le_refl _ | omega | (simp; done) | (simp; omega) | (simp at *; omega)))))) (hbwd.mono (by (focus (first | exact Nat.le_refl _ | omega | (simp; done) | (simp; omega) | (simp at *; omega))))))
      | (go_at_call 29
         refine (SameImage_eq _ _ N _ _ _ _ _ _ (H3.out _ (by repeat (first | (with_reducible assumption) | (with_reducible exact Below.refl _ _) | (with_reducible refine Below.drew ?_) | (with_reducible refine below_drewN ?_ _) | ((with_reducible refine Below.alloc ?_ ?_ _); rotate_left; (focus (first | exact Nat.le_refl _ | omega | (simp; done) | (simp; omega) | (simp at *; omega)))) | ((with_reducible refine Below.setCell ?_ ?_ _); rotate_left; (focus (first | exact Nat.le_refl _ | omega | (simp; done) | (simp; omega) | (simp at *; omega))))))) (H4.out _ (by repeat (first | (with_reducible assumption) | (with_reducible exact Below.refl _ _) | (with_reducible refine Below.drew ?_) | (with_reducible refine below_drewN ?_ _) | ((with_reducible refine Below.alloc ?_ ?_ _); rotate_left; (focus (first | exact Nat.le_refl _ | omega | (simp; done) | (simp; omega) | (simp at *; omega)))) | ((with_reducible refine Below.setCell ?_ ?_ _); rotate_left; (focus (first | exact Nat.le_refl _ | omega | (simp; done) | (simp; omega) | (simp at *; omega)))))))).mono ?_
         rintro e we ⟨rfl, hbwe⟩
         have hzwe := hbwe.size
         try simp at hzwe
         have kwe : Below w.heap.size w we := Below.trans (by repeat (first | (with_reducible assumption) | (with_reducible exact Below.refl _ _) | (with_reducible refine Below.drew ?_) | (with_reducible refine below_drewN ?_ _) | ((with_reducible refine Below.alloc ?_ ?_ _); rotate_left; (focus (first | exact Nat.le_refl _ | omega | (simp; done) | (simp; omega) | (simp at *; omega)))) | ((with_reducible refine Below.setCell ?_ ?_ _); rotate_left; (focus (first | exact Nat.le_refl _ | omega | (simp; done) | (simp; omega) | (simp at *; omega)))))) (hbwe.mono (by (focus (first | exact Nat.le_refl _ | omega | (simp; done) | (simp; omega) | (simp at *; omega)))))
         have kzwe := kwe.size
         have jwe : Below w4.heap.size w4 we := Below.trans (by repeat (first | (with_reducible assumption) | (with_reducible exact Below.refl _ _) | (with_reducible refine Below.drew ?_) | (with_reducible refine below_drewN ?_ _) | ((with_reducible refine Below.alloc ?_ ?_ _); rotate_left; (focus (first | exact Nat.le_refl _ | omega | (simp; done) | (simp; omega) | (simp at *; omega)))) | ((with_reducible refine Below.setCell ?_ ?_ _); rotate_left; (focus (first | exact Nat.le_refl _ | omega | (simp; done) | (simp; omega) | (simp at *; omega)))))) (hbwe.mono (by (focus (first | exact Nat.le_refl _ | omega | (simp; done) | (simp; omega) | (simp at *; omega))))))
      | (go_at_call 30
         refine (drawn_any _).mono ?_
         rintro e wf ⟨rfl, hbwf⟩
         have hzwf := hbwf.size
         try simp at hzwf
         have kwf : Below w.heap.size w wf := Below.trans (by repeat (first | (with_reducible assumption) | (with_reducible exact Below.refl _ _) | (with_reducible refine Below.drew ?_) | (with_reducible refine below_drewN ?_ _) | ((with_reducible refine Below.alloc ?_ ?_ _); rotate_left; (focus (first | exact Nat.le_refl _ | omega | (simp; done) | (simp; omega) | (simp at *; omega)))) | ((with_reducible refine Below.setCell ?_ ?_ _); rotate_left; (focus (first | exact Nat.le_refl _ | omega | (simp; done) | (simp; omega) | (simp at *; omega)))))) (hbwf.mono (by (focus (first | exact Nat.le_refl _ | omega | (simp; done) | (simp; omega) | (simp at *; omega)))))
         have kzwf := kwf.size
         have jwf : Below w4.heap.size w4 wf := Below.trans (by repeat (first | (with_reducible assumption) | (with_reducible exact Below.refl _ _) | (with_reducible refine Below.drew ?_) | (with_reducible refine below_drewN ?_ _) | ((with_reducible refine Below.alloc ?_ ?_ _); rotate_left; (focus (first | exact Nat.le_refl _ | omega | (simp; done) | (simp; omega) | (simp at *; omega)))) | ((with_reducible refine Below.setCell ?_ ?_ _); rotate_left; (focus (first | exact Nat.le_refl _ | omega | (simp; done) | (simp; omega) | (simp at *; omega)))))) (hbwf.mono (by (focus (first | exact Nat.le_refl _ | omega | (simp; done) | (simp; omega) | (simp at *; omega)))))))
  go_wp2
  go_ret
  exact ⟨rfl, (by repeat (first | (with_reducible assumption) | (with_reducible exact Below.refl _ _) | (with_reducible refine Below.drew ?_) | (with_reducible refine below_drewN ?_ _) | ((with_reducible refine Below.alloc ?_ ?_ _); rotate_left; (focus (first | exact Nat.le_refl _ | omega | (simp; done) | (simp; omega) | (simp at *; omega)))) | ((with_reducible refine Below.setCell ?_ ?_ _); rotate_left; (focus (first | exact Nat.le_refl _ | omega | (simp; done) | (simp; omega) | (simp at *; omega))))))⟩

/-- The law, whatever the arguments. -/
theorem RenderMatchesSpec_walk {w : World} (L R C : Int) (A : Option Addr) (n c : Nat) (p : Nat → Int) (hn : n ≤ maxLen) (hp : Byt p) (hr : RdB w A n p) (s : Int) (_hs : (Lit.int .i64 s).wf = true) (l : Int) (_hl : (Lit.int .i64 l).wf = true) (t : Int) (_ht : (Lit.int .i64 t).wf = true)
    (W K : Int) (B : Option Addr) (m d : Nat) (q : Nat → Int) (_hm : m ≤ maxLen) (_hq : Byt q) (_hrq : RdB w B m q) :
    Calls Try.prog 3 #[gv L R C A n c, .int .i64 s, .int .i64 l, .int .i64 t, iv W K B m d] w fun e w' => e = .returned (.bool true) ∧ Below w.heap.size w w' := by
  rcases drawF_cases (gridF L R C n p) s l t with h | ⟨h, hs, hl, ht⟩
  · exact RMS_bad A B n c m d L R C s l t W K p w hn hp hr h
  · rcases gridF_cases L R C n p with hg | hg
    · have hR : 53 ≤ R ∧ R ≤ 85 := by have := rowsOf_lv hg.lv; have := hg.rows; omega
      have hd := (draw_bd hs hl ht hR).2.2.2.2.1
      exact RMS_ok A B n c m d ((58 * s + 2 * l) * (R * s + 2 * t)).toNat L R C s l t W K p w hn hp hr hg hs hl ht (by omega)
    · exact absurd h hg

end Go.Proofs.Ytpdjiokmafoppaa
