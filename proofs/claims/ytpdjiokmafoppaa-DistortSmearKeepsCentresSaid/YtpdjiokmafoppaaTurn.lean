/- distort.Turn. Conditions: the pixels read as bytes. -/
import Derived.Test.YtpdjiokmafoppaaTurnP
namespace Go.Proofs.Ytpdjiokmafoppaa
open Go.RowKit

theorem validTurn_any (t : Int) (w : World) : Calls Try.prog 114 #[.int .i64 t] w fun e w' => e = .returned (.bool (inB t 0 7)) ∧ w = w' := by
  by_cases h : 0 ≤ t
  · have HF : Hid (inB t 0 7 = decide (t < 8)) := Lib.hid (by unfold inB; simp [h]; omega)
    go_enter Try.func114, Try.ntmps114
    go_wp2
    go_ret
    exact ⟨by rw [HF.out]; rfl, rfl⟩
  · have HF : Hid (inB t 0 7 = false) := Lib.hid (inB_no (by omega))
    go_enter Try.func114, Try.ntmps114
    go_wp2
    go_ret
    exact ⟨by rw [HF.out]; rfl, rfl⟩

/-- The fault of a turn. -/
def tuC (i : Int × Int) (t : Int) : Int × Int := if i.1 ≠ 0 then i else if t < 0 ∨ 7 < t then (4, -2) else (0, 0)

set_option maxHeartbeats 1000000 in
theorem Turn_img (A : Option Addr) (n c : Nat) (W H t : Int) (w : World) (hb : (imgF W H n).1 ≠ 0) :
    Calls Try.prog 56 #[iv W H A n c, .int .i64 t] w fun e w' => e = .returned (.tuple #[iv 0 0 none 0 0, fv (imgF W H n).1 (imgF W H n).2]) ∧ Below w.heap.size w w' := by
  obtain ⟨c0, i0, hci⟩ : ∃ c0 i0, imgF W H n = (c0, i0) := ⟨_, _, rfl⟩
  have hb0 : (c0 == 0) = false := by rw [hci] at hb; simpa using hb
  have HCI := Lib.hid hci
  clear hb hci
  rw [HCI.out]
  go_enter Try.func56, Try.ntmps56
  go_wp2_with fail
  refine (rValidate_any A n c W H _).mono ?_
  rw [HCI.out]
  rintro e w1 ⟨rfl, hbw1⟩
  obtain ⟨hcw1, hfw1⟩ := bcell hbw1
  have hzw1 := hbw1.size
  try simp at hzw1
  have kw1 : Below w.heap.size w w1 := Below.trans (by repeat (first | (with_reducible assumption) | (with_reducible exact Below.refl _ _) | (with_reducible refine Below.drew ?_) | (with_reducible refine below_drewN ?_ _) | ((with_reducible refine Below.alloc ?_ ?_ _); rotate_left; (focus (first | exact Nat.le_refl _ | omega | (simp; done) | (simp; omega) | (simp at *; omega)))) | ((with_reducible refine Below.setCell ?_ ?_ _); rotate_left; (focus (first | exact Nat.le_refl _ | omega | (simp; done) | (simp; omega) | (simp at *; omega)))))) (hbw1.mono (by (focus (first | exact Nat.le_refl _ | omega | (simp; done) | (simp; omega) | (simp at *; omega)))))
  have kzw1 := kw1.size
  have lw1w0 : w.heap.size < w1.heap.size := by omega
  have lw1w1 : w.heap.size + 1 < w1.heap.size := by omega
  have lw1w2 : w.heap.size + 2 < w1.heap.size := by omega
  go_wp2
  go_region
  go_wp2
  refine bodyPost_ret (v := (.tuple #[iv 0 0 none 0 0, fv c0 i0])) (by simp [results, Try.results56, go_sem, *]) rfl ?_
  exact ⟨rfl, (by repeat (first | (with_reducible assumption) | (with_reducible exact Below.refl _ _) | (with_reducible refine Below.drew ?_) | (with_reducible refine below_drewN ?_ _) | ((with_reducible refine Below.alloc ?_ ?_ _); rotate_left; (focus (first | exact Nat.le_refl _ | omega | (simp; done) | (simp; omega) | (simp at *; omega)))) | ((with_reducible refine Below.setCell ?_ ?_ _); rotate_left; (focus (first | exact Nat.le_refl _ | omega | (simp; done) | (simp; omega) | (simp at *; omega))))))⟩

set_option maxHeartbeats 1000000 in
theorem Turn_out (A : Option Addr) (n c : Nat) (W H t : Int) (w : World) (hi : ImgOk W H n) (ht : t < 0 ∨ 7 < t) :
    Calls Try.prog 56 #[iv W H A n c, .int .i64 t] w fun e w' => e = .returned (.tuple #[iv 0 0 none 0 0, fv 4 (-2)]) ∧ Below w.heap.size w w' := by
  have HF := Lib.hid (imgF_ok hi)
  have t1 := inB_no ht
  clear hi ht
  go_enter Try.func56, Try.ntmps56
  go_wp2_with fail
  refine (rValidate_any A n c W H _).mono ?_
  rw [HF.out]
  rintro e w1 ⟨rfl, hbw1⟩
  obtain ⟨hcw1, hfw1⟩ := bcell hbw1
  have hzw1 := hbw1.size
  try simp at hzw1
  have kw1 : Below w.heap.size w w1 := Below.trans (by repeat (first | (with_reducible assumption) | (with_reducible exact Below.refl _ _) | (with_reducible refine Below.drew ?_) | (with_reducible refine below_drewN ?_ _) | ((with_reducible refine Below.alloc ?_ ?_ _); rotate_left; (focus (first | exact Nat.le_refl _ | omega | (simp; done) | (simp; omega) | (simp at *; omega)))) | ((with_reducible refine Below.setCell ?_ ?_ _); rotate_left; (focus (first | exact Nat.le_refl _ | omega | (simp; done) | (simp; omega) | (simp at *; omega)))))) (hbw1.mono (by (focus (first | exact Nat.le_refl _ | omega | (simp; done) | (simp; omega) | (simp at *; omega)))))
  have kzw1 := kw1.size
  have lw1w0 : w.heap.size < w1.heap.size := by omega
  have lw1w1 : w.heap.size + 1 < w1.heap.size := by omega
  have lw1w2 : w.heap.size + 2 < w1.heap.size := by omega
  go_wp2_with fail
  refine (validTurn_any _ _).mono ?_
  rintro e w' ⟨rfl, rfl⟩
  go_wp2_with fail
  go_wp2_with fail
  refine (dfault_any _ _ _).mono ?_
  rintro e w2 ⟨rfl, hbw2⟩
  obtain ⟨hcw2, hfw2⟩ := bcell hbw2
  have hzw2 := hbw2.size
  try simp at hzw2
  have kw2 : Below w.heap.size w w2 := Below.trans (by repeat (first | (with_reducible assumption) | (with_reducible exact Below.refl _ _) | (with_reducible refine Below.drew ?_) | (with_reducible refine below_drewN ?_ _) | ((with_reducible refine Below.alloc ?_ ?_ _); rotate_left; (focus (first | exact Nat.le_refl _ | omega | (simp; done) | (simp; omega) | (simp at *; omega)))) | ((with_reducible refine Below.setCell ?_ ?_ _); rotate_left; (focus (first | exact Nat.le_refl _ | omega | (simp; done) | (simp; omega) | (simp at *; omega)))))) (hbw2.mono (by (focus (first | exact Nat.le_refl _ | omega | (simp; done) | (simp; omega) | (simp at *; omega)))))
  have kzw2 := kw2.size
  have lw2w10 : w1.heap.size < w2.heap.size := by omega
  have lw2w0 : w.heap.size < w2.heap.size := by omega
  have lw2w1 : w.heap.size + 1 < w2.heap.size := by omega
  have lw2w2 : w.heap.size + 2 < w2.heap.size := by omega
  go_wp2
  refine bodyPost_ret (v := (.tuple #[iv 0 0 none 0 0, fv 4 (-2)])) (by simp [results, Try.results56, go_sem, *]) rfl ?_
  exact ⟨rfl, (by repeat (first | (with_reducible assumption) | (with_reducible exact Below.refl _ _) | (with_reducible refine Below.drew ?_) | (with_reducible refine below_drewN ?_ _) | ((with_reducible refine Below.alloc ?_ ?_ _); rotate_left; (focus (first | exact Nat.le_refl _ | omega | (simp; done) | (simp; omega) | (simp at *; omega)))) | ((with_reducible refine Below.setCell ?_ ?_ _); rotate_left; (focus (first | exact Nat.le_refl _ | omega | (simp; done) | (simp; omega) | (simp at *; omega))))))⟩

/-- What holds while an image is being turned. -/
structure TI (w : World) (B n : Nat) (W H : Int) (p : Nat → Int) (wr : World) (g : Nat) : Prop where
  out : Blk wr B 26 #[.int .i64 W, .int .i64 H, .slice (some ⟨g, 0, none⟩) n n]
  row : wr.rowIs g 5 n (fun k => .int .u8 (p k))
  r1 : Blk wr (w.heap.size + 1) 26 #[.int .i64 0, .int .i64 0, .slice none 0 0]
  r2 : Blk wr (w.heap.size + 1 + 1) 28 #[.int .i64 0, .int .i64 0]
  ne : g ≠ B
  lo : w.heap.size + 1 + 1 < B
  lg : w.heap.size + 1 + 1 < g
  bel : Below w.heap.size w wr
/-- The image in the variable is exchanged for a new one. -/
theorem TI.next {w wr w4 : World} {B n g g4 : Nat} {W H V K : Int} {p q : Nat → Int} (h : TI w B n W H p wr g) (hb : Below wr.heap.size wr w4) (hg : wr.heap.size ≤ g4) (hr : w4.rowIs g4 5 n (fun k => .int .u8 (q k))) :
    TI w B n V K q (((w4.setCell ⟨B, 0, none⟩ (.int .i64 V)).setCell ⟨B, 1, none⟩ (.int .i64 K)).setCell ⟨B, 2, none⟩ (.slice (some ⟨g4, 0, none⟩) n n)) g4 := by
  have l1 := h.out.lt
  have l2 := h.lo
  have l3 := h.bel.size
  have hne : g4 ≠ B := by omega
  refine ⟨?_, ?_, ?_, ?_, hne, l2, by omega, ?_⟩
  · exact (((h.out.below hb l1).set_ 0 _).set_ 1 _).set_ 2 _
  · exact (((hr.setOther (by simp; omega) _).setOther (by simp; omega) _).setOther (by simp; omega) _)
  · exact (((h.r1.below hb h.r1.lt).far (by simp; omega) _).far (by simp; omega) _).far (by simp; omega) _
  · exact (((h.r2.below hb h.r2.lt).far (by simp; omega) _).far (by simp; omega) _).far (by simp; omega) _
  · exact (((h.bel.trans (hb.mono l3)).setCell (by simp; omega) _).setCell (by simp; omega) _).setCell (by simp; omega) _

set_option maxHeartbeats 4000000 in
set_option maxRecDepth 100000 in
theorem Turn_pl (A : Option Addr) (n c : Nat) (W H t : Int) (p : Nat → Int) (w : World) (hi : ImgOk W H n) (hr : RdB w A n p) (ht : 0 ≤ t ∧ t < 4) :
    Calls Try.prog 56 #[iv W H A n c, .int .i64 t] w fun e w' => ∃ g, e = .returned (.tuple #[iv (itW W H (t % 4).toNat).1 (itW W H (t % 4).toNat).2 (some ⟨g, 0, none⟩) n n, fv 0 0]) ∧ w.heap.size ≤ g ∧
      w'.rowIs g 5 n (fun k => .int .u8 (itF W H p (t % 4).toNat k)) ∧ Below w.heap.size w w' := by
  have HR := rd_later hr
  have HI := Lib.hid hi
  have HF := Lib.hid (imgF_ok hi)
  have hnb : n ≤ 409600 := by have := mul_bd ⟨hi.w1, hi.w2⟩ ⟨hi.h1, hi.h2⟩; have := hi.len; omega
  have t1 := inB_yes (by omega : 0 ≤ t) (by omega : t ≤ 7)
  obtain ⟨m, hm⟩ : ∃ m : Nat, (m : Int) = t % 4 := ⟨(t % 4).toNat, by omega⟩
  have hmt : (t % 4).toNat = m := by omega
  have HM := Lib.hid (show m ≤ 3 by omega)
  rw [hmt]
  have u1 : t.tmod 4 = (m : Int) := by rw [hm]; exact Int.tmod_eq_emod_of_nonneg (by omega)
  have u2 : IntKind.i64.wrap (m : Int) = (m : Int) := IntWalk.i64_in _ (by omega)
  clear hr hi hm hmt
  go_enter Try.func56, Try.ntmps56
  go_wp2_with fail
  refine (rValidate_any A n c W H _).mono ?_
  rw [HF.out]
  rintro e w1 ⟨rfl, hbw1⟩
  have hzw1 := hbw1.size
  try simp at hzw1
  have kw1 : Below w.heap.size w w1 := Below.trans (by repeat (first | (with_reducible assumption) | (with_reducible exact Below.refl _ _) | (with_reducible refine Below.drew ?_) | (with_reducible refine below_drewN ?_ _) | ((with_reducible refine Below.alloc ?_ ?_ _); rotate_left; (focus (first | exact Nat.le_refl _ | omega | (simp; done) | (simp; omega) | (simp at *; omega)))) | ((with_reducible refine Below.setCell ?_ ?_ _); rotate_left; (focus (first | exact Nat.le_refl _ | omega | (simp; done) | (simp; omega) | (simp at *; omega)))))) (hbw1.mono (by (focus (first | exact Nat.le_refl _ | omega | (simp; done) | (simp; omega) | (simp at *; omega)))))
  have kzw1 := kw1.size
  have Bin : Blk w1 (w.heap.size) 26 #[.int .i64 W, .int .i64 H, .slice A n c] := Blk.below (by repeat (first | (with_reducible assumption) | (with_reducible exact Blk.new _ _ _) | ((with_reducible refine Blk.new_at _ _ _ ?_); (focus (first | (simp; done) | omega))) | (with_reducible refine Blk.drew ?_) | (with_reducible refine Blk.drewN ?_ _) | (with_reducible refine Blk.alloc ?_ _) | ((with_reducible refine Blk.far ?_ ?_ _); rotate_left; (focus (first | (simp; done) | (simp; omega) | omega))))) hbw1 (by (focus (first | omega | (simp; done) | (simp; omega) | (simp at *; omega))))
  try clear ci fi
  try clear Bi
  have Bi := Bin
  clear Bin
  have ci := Bi.cell
  have fi := Bi.frozen
  have liw1 := Bi.lt
  have Ban : Blk w1 (w.heap.size + 1) 26 #[.int .i64 0, .int .i64 0, .slice none 0 0] := Blk.below (by repeat (first | (with_reducible assumption) | (with_reducible exact Blk.new _ _ _) | ((with_reducible refine Blk.new_at _ _ _ ?_); (focus (first | (simp; done) | omega))) | (with_reducible refine Blk.drew ?_) | (with_reducible refine Blk.drewN ?_ _) | (with_reducible refine Blk.alloc ?_ _) | ((with_reducible refine Blk.far ?_ ?_ _); rotate_left; (focus (first | (simp; done) | (simp; omega) | omega))))) hbw1 (by (focus (first | omega | (simp; done) | (simp; omega) | (simp at *; omega))))
  try clear ca fa
  try clear Ba
  have Ba := Ban
  clear Ban
  have ca := Ba.cell
  have fa := Ba.frozen
  have law1 := Ba.lt
  have Bbn : Blk w1 (w.heap.size + 1 + 1) 28 #[.int .i64 0, .int .i64 0] := Blk.below (by repeat (first | (with_reducible assumption) | (with_reducible exact Blk.new _ _ _) | ((with_reducible refine Blk.new_at _ _ _ ?_); (focus (first | (simp; done) | omega))) | (with_reducible refine Blk.drew ?_) | (with_reducible refine Blk.drewN ?_ _) | (with_reducible refine Blk.alloc ?_ _) | ((with_reducible refine Blk.far ?_ ?_ _); rotate_left; (focus (first | (simp; done) | (simp; omega) | omega))))) hbw1 (by (focus (first | omega | (simp; done) | (simp; omega) | (simp at *; omega))))
  try clear cb fb
  try clear Bb
  have Bb := Bbn
  clear Bbn
  have cb := Bb.cell
  have fb := Bb.frozen
  have lbw1 := Bb.lt
  clear hbw1
  go_wp2_with fail
  refine (validTurn_any _ _).mono ?_
  rintro e w' ⟨rfl, rfl⟩
  go_wp2_with fail
  refine (copyOf_any A n c W H p (by omega) _ (HR.out _ (by repeat (first | (with_reducible assumption) | (with_reducible exact Below.refl _ _) | (with_reducible refine Below.drew ?_) | (with_reducible refine below_drewN ?_ _) | ((with_reducible refine Below.alloc ?_ ?_ _); rotate_left; (focus (first | exact Nat.le_refl _ | omega | (simp; done) | (simp; omega) | (simp at *; omega)))) | ((with_reducible refine Below.setCell ?_ ?_ _); rotate_left; (focus (first | exact Nat.le_refl _ | omega | (simp; done) | (simp; omega) | (simp at *; omega)))))))).mono ?_
  rintro e w2 ⟨rfl, hrow, hbw2⟩
  have Hrow := Lib.hid hrow
  have hgl := hrow.lt
  clear hrow
  have hzw2 := hbw2.size
  try simp at hzw2
  have kw2 : Below w.heap.size w w2 := Below.trans (by repeat (first | (with_reducible assumption) | (with_reducible exact Below.refl _ _) | (with_reducible refine Below.drew ?_) | (with_reducible refine below_drewN ?_ _) | ((with_reducible refine Below.alloc ?_ ?_ _); rotate_left; (focus (first | exact Nat.le_refl _ | omega | (simp; done) | (simp; omega) | (simp at *; omega)))) | ((with_reducible refine Below.setCell ?_ ?_ _); rotate_left; (focus (first | exact Nat.le_refl _ | omega | (simp; done) | (simp; omega) | (simp at *; omega)))))) (hbw2.mono (by (focus (first | exact Nat.le_refl _ | omega | (simp; done) | (simp; omega) | (simp at *; omega)))))
  have kzw2 := kw2.size
  have Ban : Blk w2 (w.heap.size + 1) 26 #[.int .i64 0, .int .i64 0, .slice none 0 0] := Blk.below (by repeat (first | (with_reducible assumption) | (with_reducible exact Blk.new _ _ _) | ((with_reducible refine Blk.new_at _ _ _ ?_); (focus (first | (simp; done) | omega))) | (with_reducible refine Blk.drew ?_) | (with_reducible refine Blk.drewN ?_ _) | (with_reducible refine Blk.alloc ?_ _) | ((with_reducible refine Blk.far ?_ ?_ _); rotate_left; (focus (first | (simp; done) | (simp; omega) | omega))))) hbw2 (by (focus (first | omega | (simp; done) | (simp; omega) | (simp at *; omega))))
  try clear ca fa
  try clear Ba
  have Ba := Ban
  clear Ban
  have ca := Ba.cell
  have fa := Ba.frozen
  have law2 := Ba.lt
  have Bbn : Blk w2 (w.heap.size + 1 + 1) 28 #[.int .i64 0, .int .i64 0] := Blk.below (by repeat (first | (with_reducible assumption) | (with_reducible exact Blk.new _ _ _) | ((with_reducible refine Blk.new_at _ _ _ ?_); (focus (first | (simp; done) | omega))) | (with_reducible refine Blk.drew ?_) | (with_reducible refine Blk.drewN ?_ _) | (with_reducible refine Blk.alloc ?_ _) | ((with_reducible refine Blk.far ?_ ?_ _); rotate_left; (focus (first | (simp; done) | (simp; omega) | omega))))) hbw2 (by (focus (first | omega | (simp; done) | (simp; omega) | (simp at *; omega))))
  try clear cb fb
  try clear Bb
  have Bb := Bbn
  clear Bbn
  have cb := Bb.cell
  have fb := Bb.frozen
  have lbw2 := Bb.lt
  clear ca fa cb fb ci fi Bi
  simp at hgl
  have T0 : TI w w2.heap.size n W H p (w2.alloc (.cells #[.int .i64 W, .int .i64 H, .slice (some ⟨w1.heap.size + 1 + 2, 0, none⟩) n n] 26)) (w1.heap.size + 1 + 2) :=
    ⟨Blk.new _ _ _, (by simpa using Hrow.out : w2.rowIs (w1.heap.size + 1 + 2) 5 n _).alloc _, Ba.alloc _, Bb.alloc _, by omega, by omega, by omega, (by repeat (first | (with_reducible assumption) | (with_reducible exact Below.refl _ _) | (with_reducible refine Below.drew ?_) | (with_reducible refine below_drewN ?_ _) | ((with_reducible refine Below.alloc ?_ ?_ _); rotate_left; (focus (first | exact Nat.le_refl _ | omega | (simp; done) | (simp; omega) | (simp at *; omega)))) | ((with_reducible refine Below.setCell ?_ ?_ _); rotate_left; (focus (first | exact Nat.le_refl _ | omega | (simp; done) | (simp; omega) | (simp at *; omega))))))⟩
  clear Ba Bb Hrow hbw2
  go_wp2
  go_loopg [28] m (fun gk s28 wr => ∃ k g : Nat, k ≤ m ∧ gk = m - k ∧ s28 = .int .i64 k ∧ TI w w2.heap.size n (itW W H k).1 (itW W H k).2 (itF W H p k) wr g)
  case atStart => exact ⟨0, _, by omega, rfl, rfl, T0⟩
  case round =>
    obtain ⟨k, g, hk, rfl, rfl, hT⟩ := hrel
    clear T0
    have HT := Lib.hid hT
    have rb := hT.bel
    have co := hT.out.cell
    have fo := hT.out.frozen
    have lo := hT.out.lt
    by_cases hlt : k < m
    · have HK := Lib.hid (show k + 1 ≤ m from hlt)
      have kb : (k : Int) < 4 := by have := HM.out; omega
      clear hT
      go_wp2_with fail
      refine (quarter_ok _ n n (itW W H k).1 (itW W H k).2 (itF W H p k) _ (it_img HI.out k) (Rd.of_row HT.out.row)).mono ?_
      rintro e w4 ⟨g4, rfl, hg4, hrow4, hbw4⟩
      have HT4 := Lib.hid (HT.out.next (V := (itW W H k).2) (K := (itW W H k).1) hbw4 hg4 hrow4)
      have B4 := HT.out.out.below hbw4 lo
      have co4 := B4.cell
      have fo4 := B4.frozen
      clear hrow4 hbw4 B4 co fo
      go_wp2
      go_roundg (m - (k + 1))
      case measure => have := HK.out; omega
      case rel => exact ⟨k + 1, g4, HK.out, rfl, by go_num, HT4.out⟩
    · obtain rfl : k = m := by omega
      have ca := hT.r1.cell
      have fa := hT.r1.frozen
      have cb := hT.r2.cell
      have fb := hT.r2.frozen
      have hg := hT.lg
      have Hrow := Lib.hid hT.row
      clear hT
      go_wp2
      refine bodyPost_ret (v := (.tuple #[iv (itW W H k).1 (itW W H k).2 (some ⟨g, 0, none⟩) n n, fv 0 0])) (by simp [results, Try.results56, go_sem, *]) rfl ?_
      refine ⟨_, rfl, by omega, ?_, (by repeat (first | (with_reducible assumption) | (with_reducible exact Below.refl _ _) | (with_reducible refine Below.drew ?_) | (with_reducible refine below_drewN ?_ _) | ((with_reducible refine Below.alloc ?_ ?_ _); rotate_left; (focus (first | exact Nat.le_refl _ | omega | (simp; done) | (simp; omega) | (simp at *; omega)))) | ((with_reducible refine Below.setCell ?_ ?_ _); rotate_left; (focus (first | exact Nat.le_refl _ | omega | (simp; done) | (simp; omega) | (simp at *; omega))))))⟩
      have := Hrow.out
      exact (by repeat (first | (with_reducible assumption) | (with_reducible refine World.rowIs.drew ?_) | (with_reducible refine rowIs_drewN ?_ _) | (with_reducible refine World.rowIs.alloc ?_ _) | ((with_reducible refine World.rowIs.setOther ?_ ?_ _); rotate_left; (focus (first | (simp; done) | (simp; omega) | omega)))))

set_option maxHeartbeats 4000000 in
set_option maxRecDepth 100000 in
theorem Turn_mi (A : Option Addr) (n c : Nat) (W H t : Int) (p : Nat → Int) (w : World) (hi : ImgOk W H n) (hr : RdB w A n p) (ht : 4 ≤ t ∧ t ≤ 7) :
    Calls Try.prog 56 #[iv W H A n c, .int .i64 t] w fun e w' => ∃ g, e = .returned (.tuple #[iv (itW W H (t % 4).toNat).1 (itW W H (t % 4).toNat).2 (some ⟨g, 0, none⟩) n n, fv 0 0]) ∧ w.heap.size ≤ g ∧
      w'.rowIs g 5 n (fun k => .int .u8 (itF W H (miF W p) (t % 4).toNat k)) ∧ Below w.heap.size w w' := by
  have HR := rd_later hr
  have HI := Lib.hid hi
  have HF := Lib.hid (imgF_ok hi)
  have hnb : n ≤ 409600 := by have := mul_bd ⟨hi.w1, hi.w2⟩ ⟨hi.h1, hi.h2⟩; have := hi.len; omega
  have t1 := inB_yes (by omega : 0 ≤ t) (by omega : t ≤ 7)
  obtain ⟨m, hm⟩ : ∃ m : Nat, (m : Int) = t % 4 := ⟨(t % 4).toNat, by omega⟩
  have hmt : (t % 4).toNat = m := by omega
  have HM := Lib.hid (show m ≤ 3 by omega)
  rw [hmt]
  have u1 : t.tmod 4 = (m : Int) := by rw [hm]; exact Int.tmod_eq_emod_of_nonneg (by omega)
  have u2 : IntKind.i64.wrap (m : Int) = (m : Int) := IntWalk.i64_in _ (by omega)
  clear hr hi hm hmt
  go_enter Try.func56, Try.ntmps56
  go_wp2_with fail
  refine (rValidate_any A n c W H _).mono ?_
  rw [HF.out]
  rintro e w1 ⟨rfl, hbw1⟩
  have hzw1 := hbw1.size
  try simp at hzw1
  have kw1 : Below w.heap.size w w1 := Below.trans (by repeat (first | (with_reducible assumption) | (with_reducible exact Below.refl _ _) | (with_reducible refine Below.drew ?_) | (with_reducible refine below_drewN ?_ _) | ((with_reducible refine Below.alloc ?_ ?_ _); rotate_left; (focus (first | exact Nat.le_refl _ | omega | (simp; done) | (simp; omega) | (simp at *; omega)))) | ((with_reducible refine Below.setCell ?_ ?_ _); rotate_left; (focus (first | exact Nat.le_refl _ | omega | (simp; done) | (simp; omega) | (simp at *; omega)))))) (hbw1.mono (by (focus (first | exact Nat.le_refl _ | omega | (simp; done) | (simp; omega) | (simp at *; omega)))))
  have kzw1 := kw1.size
  have Bin : Blk w1 (w.heap.size) 26 #[.int .i64 W, .int .i64 H, .slice A n c] := Blk.below (by repeat (first | (with_reducible assumption) | (with_reducible exact Blk.new _ _ _) | ((with_reducible refine Blk.new_at _ _ _ ?_); (focus (first | (simp; done) | omega))) | (with_reducible refine Blk.drew ?_) | (with_reducible refine Blk.drewN ?_ _) | (with_reducible refine Blk.alloc ?_ _) | ((with_reducible refine Blk.far ?_ ?_ _); rotate_left; (focus (first | (simp; done) | (simp; omega) | omega))))) hbw1 (by (focus (first | omega | (simp; done) | (simp; omega) | (simp at *; omega))))
  try clear ci fi
  try clear Bi
  have Bi := Bin
  clear Bin
  have ci := Bi.cell
  have fi := Bi.frozen
  have liw1 := Bi.lt
  have Ban : Blk w1 (w.heap.size + 1) 26 #[.int .i64 0, .int .i64 0, .slice none 0 0] := Blk.below (by repeat (first | (with_reducible assumption) | (with_reducible exact Blk.new _ _ _) | ((with_reducible refine Blk.new_at _ _ _ ?_); (focus (first | (simp; done) | omega))) | (with_reducible refine Blk.drew ?_) | (with_reducible refine Blk.drewN ?_ _) | (with_reducible refine Blk.alloc ?_ _) | ((with_reducible refine Blk.far ?_ ?_ _); rotate_left; (focus (first | (simp; done) | (simp; omega) | omega))))) hbw1 (by (focus (first | omega | (simp; done) | (simp; omega) | (simp at *; omega))))
  try clear ca fa
  try clear Ba
  have Ba := Ban
  clear Ban
  have ca := Ba.cell
  have fa := Ba.frozen
  have law1 := Ba.lt
  have Bbn : Blk w1 (w.heap.size + 1 + 1) 28 #[.int .i64 0, .int .i64 0] := Blk.below (by repeat (first | (with_reducible assumption) | (with_reducible exact Blk.new _ _ _) | ((with_reducible refine Blk.new_at _ _ _ ?_); (focus (first | (simp; done) | omega))) | (with_reducible refine Blk.drew ?_) | (with_reducible refine Blk.drewN ?_ _) | (with_reducible refine Blk.alloc ?_ _) | ((with_reducible refine Blk.far ?_ ?_ _); rotate_left; (focus (first | (simp; done) | (simp; omega) | omega))))) hbw1 (by (focus (first | omega | (simp; done) | (simp; omega) | (simp at *; omega))))
  try clear cb fb
  try clear Bb
  have Bb := Bbn
  clear Bbn
  have cb := Bb.cell
  have fb := Bb.frozen
  have lbw1 := Bb.lt
  clear hbw1
  go_wp2_with fail
  refine (validTurn_any _ _).mono ?_
  rintro e w' ⟨rfl, rfl⟩
  go_wp2_with fail
  refine (copyOf_any A n c W H p (by omega) _ (HR.out _ (by repeat (first | (with_reducible assumption) | (with_reducible exact Below.refl _ _) | (with_reducible refine Below.drew ?_) | (with_reducible refine below_drewN ?_ _) | ((with_reducible refine Below.alloc ?_ ?_ _); rotate_left; (focus (first | exact Nat.le_refl _ | omega | (simp; done) | (simp; omega) | (simp at *; omega)))) | ((with_reducible refine Below.setCell ?_ ?_ _); rotate_left; (focus (first | exact Nat.le_refl _ | omega | (simp; done) | (simp; omega) | (simp at *; omega)))))))).mono ?_
  rintro e w2 ⟨rfl, hrow, hbw2⟩
  have Hrow := Lib.hid hrow
  have hgl := hrow.lt
  clear hrow
  have hzw2 := hbw2.size
  try simp at hzw2
  have kw2 : Below w.heap.size w w2 := Below.trans (by repeat (first | (with_reducible assumption) | (with_reducible exact Below.refl _ _) | (with_reducible refine Below.drew ?_) | (with_reducible refine below_drewN ?_ _) | ((with_reducible refine Below.alloc ?_ ?_ _); rotate_left; (focus (first | exact Nat.le_refl _ | omega | (simp; done) | (simp; omega) | (simp at *; omega)))) | ((with_reducible refine Below.setCell ?_ ?_ _); rotate_left; (focus (first | exact Nat.le_refl _ | omega | (simp; done) | (simp; omega) | (simp at *; omega)))))) (hbw2.mono (by (focus (first | exact Nat.le_refl _ | omega | (simp; done) | (simp; omega) | (simp at *; omega)))))
  have kzw2 := kw2.size
  have Ban : Blk w2 (w.heap.size + 1) 26 #[.int .i64 0, .int .i64 0, .slice none 0 0] := Blk.below (by repeat (first | (with_reducible assumption) | (with_reducible exact Blk.new _ _ _) | ((with_reducible refine Blk.new_at _ _ _ ?_); (focus (first | (simp; done) | omega))) | (with_reducible refine Blk.drew ?_) | (with_reducible refine Blk.drewN ?_ _) | (with_reducible refine Blk.alloc ?_ _) | ((with_reducible refine Blk.far ?_ ?_ _); rotate_left; (focus (first | (simp; done) | (simp; omega) | omega))))) hbw2 (by (focus (first | omega | (simp; done) | (simp; omega) | (simp at *; omega))))
  try clear ca fa
  try clear Ba
  have Ba := Ban
  clear Ban
  have ca := Ba.cell
  have fa := Ba.frozen
  have law2 := Ba.lt
  have Bbn : Blk w2 (w.heap.size + 1 + 1) 28 #[.int .i64 0, .int .i64 0] := Blk.below (by repeat (first | (with_reducible assumption) | (with_reducible exact Blk.new _ _ _) | ((with_reducible refine Blk.new_at _ _ _ ?_); (focus (first | (simp; done) | omega))) | (with_reducible refine Blk.drew ?_) | (with_reducible refine Blk.drewN ?_ _) | (with_reducible refine Blk.alloc ?_ _) | ((with_reducible refine Blk.far ?_ ?_ _); rotate_left; (focus (first | (simp; done) | (simp; omega) | omega))))) hbw2 (by (focus (first | omega | (simp; done) | (simp; omega) | (simp at *; omega))))
  try clear cb fb
  try clear Bb
  have Bb := Bbn
  clear Bbn
  have cb := Bb.cell
  have fb := Bb.frozen
  have lbw2 := Bb.lt
  clear ca fa cb fb ci fi Bi
  simp at hgl
  have T0 : TI w w2.heap.size n W H p (w2.alloc (.cells #[.int .i64 W, .int .i64 H, .slice (some ⟨w1.heap.size + 1 + 2, 0, none⟩) n n] 26)) (w1.heap.size + 1 + 2) :=
    ⟨Blk.new _ _ _, (by simpa using Hrow.out : w2.rowIs (w1.heap.size + 1 + 2) 5 n _).alloc _, Ba.alloc _, Bb.alloc _, by omega, by omega, by omega, (by repeat (first | (with_reducible assumption) | (with_reducible exact Below.refl _ _) | (with_reducible refine Below.drew ?_) | (with_reducible refine below_drewN ?_ _) | ((with_reducible refine Below.alloc ?_ ?_ _); rotate_left; (focus (first | exact Nat.le_refl _ | omega | (simp; done) | (simp; omega) | (simp at *; omega)))) | ((with_reducible refine Below.setCell ?_ ?_ _); rotate_left; (focus (first | exact Nat.le_refl _ | omega | (simp; done) | (simp; omega) | (simp at *; omega))))))⟩
  clear Ba Bb Hrow hbw2
  have HT0 := Lib.hid T0
  have rb := T0.bel
  have c7 := T0.out.cell
  have f7 := T0.out.frozen
  clear T0
  go_wp2_with fail
  refine (mirror_ok _ n n W H p _ HI.out (Rd.of_row HT0.out.row)).mono ?_
  rintro e w3 ⟨g3, rfl, hg3, hrow3, hbw3⟩
  have T1 := HT0.out.next (V := W) (K := H) hbw3 hg3 hrow3
  clear hrow3 HT0 c7 f7
  have hzw3 := hbw3.size
  try simp at hzw3
  have kw3 : Below w.heap.size w w3 := Below.trans (by repeat (first | (with_reducible assumption) | (with_reducible exact Below.refl _ _) | (with_reducible refine Below.drew ?_) | (with_reducible refine below_drewN ?_ _) | ((with_reducible refine Below.alloc ?_ ?_ _); rotate_left; (focus (first | exact Nat.le_refl _ | omega | (simp; done) | (simp; omega) | (simp at *; omega)))) | ((with_reducible refine Below.setCell ?_ ?_ _); rotate_left; (focus (first | exact Nat.le_refl _ | omega | (simp; done) | (simp; omega) | (simp at *; omega)))))) (hbw3.mono (by (focus (first | exact Nat.le_refl _ | omega | (simp; done) | (simp; omega) | (simp at *; omega)))))
  have kzw3 := kw3.size
  have Bon : Blk w3 (w2.heap.size) 26 #[.int .i64 W, .int .i64 H, .slice (some ⟨w1.heap.size + 1 + 2, 0, none⟩) n n] := Blk.below (by repeat (first | (with_reducible assumption) | (with_reducible exact Blk.new _ _ _) | ((with_reducible refine Blk.new_at _ _ _ ?_); (focus (first | (simp; done) | omega))) | (with_reducible refine Blk.drew ?_) | (with_reducible refine Blk.drewN ?_ _) | (with_reducible refine Blk.alloc ?_ _) | ((with_reducible refine Blk.far ?_ ?_ _); rotate_left; (focus (first | (simp; done) | (simp; omega) | omega))))) hbw3 (by (focus (first | omega | (simp; done) | (simp; omega) | (simp at *; omega))))
  try clear co fo
  try clear Bo
  have Bo := Bon
  clear Bon
  have co := Bo.cell
  have fo := Bo.frozen
  have low3 := Bo.lt
  go_wp2
  go_loopg [28] m (fun gk s28 wr => ∃ k g : Nat, k ≤ m ∧ gk = m - k ∧ s28 = .int .i64 k ∧ TI w w2.heap.size n (itW W H k).1 (itW W H k).2 (itF W H (miF W p) k) wr g)
  case atStart => exact ⟨0, _, by omega, rfl, rfl, T1⟩
  case round =>
    obtain ⟨k, g, hk, rfl, rfl, hT⟩ := hrel
    clear T1
    have HT := Lib.hid hT
    have rb := hT.bel
    have co := hT.out.cell
    have fo := hT.out.frozen
    have lo := hT.out.lt
    by_cases hlt : k < m
    · have HK := Lib.hid (show k + 1 ≤ m from hlt)
      have kb : (k : Int) < 4 := by have := HM.out; omega
      clear hT
      go_wp2_with fail
      refine (quarter_ok _ n n (itW W H k).1 (itW W H k).2 (itF W H (miF W p) k) _ (it_img HI.out k) (Rd.of_row HT.out.row)).mono ?_
      rintro e w4 ⟨g4, rfl, hg4, hrow4, hbw4⟩
      have HT4 := Lib.hid (HT.out.next (V := (itW W H k).2) (K := (itW W H k).1) hbw4 hg4 hrow4)
      have B4 := HT.out.out.below hbw4 lo
      have co4 := B4.cell
      have fo4 := B4.frozen
      clear hrow4 hbw4 B4 co fo
      go_wp2
      go_roundg (m - (k + 1))
      case measure => have := HK.out; omega
      case rel => exact ⟨k + 1, g4, HK.out, rfl, by go_num, HT4.out⟩
    · obtain rfl : k = m := by omega
      have ca := hT.r1.cell
      have fa := hT.r1.frozen
      have cb := hT.r2.cell
      have fb := hT.r2.frozen
      have hg := hT.lg
      have Hrow := Lib.hid hT.row
      clear hT
      go_wp2
      refine bodyPost_ret (v := (.tuple #[iv (itW W H k).1 (itW W H k).2 (some ⟨g, 0, none⟩) n n, fv 0 0])) (by simp [results, Try.results56, go_sem, *]) rfl ?_
      refine ⟨_, rfl, by omega, ?_, (by repeat (first | (with_reducible assumption) | (with_reducible exact Below.refl _ _) | (with_reducible refine Below.drew ?_) | (with_reducible refine below_drewN ?_ _) | ((with_reducible refine Below.alloc ?_ ?_ _); rotate_left; (focus (first | exact Nat.le_refl _ | omega | (simp; done) | (simp; omega) | (simp at *; omega)))) | ((with_reducible refine Below.setCell ?_ ?_ _); rotate_left; (focus (first | exact Nat.le_refl _ | omega | (simp; done) | (simp; omega) | (simp at *; omega))))))⟩
      have := Hrow.out
      exact (by repeat (first | (with_reducible assumption) | (with_reducible refine World.rowIs.drew ?_) | (with_reducible refine rowIs_drewN ?_ _) | (with_reducible refine World.rowIs.alloc ?_ _) | ((with_reducible refine World.rowIs.setOther ?_ ?_ _); rotate_left; (focus (first | (simp; done) | (simp; omega) | omega)))))

/-- distort.Turn where it turns. -/
theorem Turn_ok (A : Option Addr) (n c : Nat) (W H t : Int) (p : Nat → Int) (w : World) (hi : ImgOk W H n) (hr : RdB w A n p) (ht : 0 ≤ t ∧ t ≤ 7) :
    Calls Try.prog 56 #[iv W H A n c, .int .i64 t] w fun e w' => ∃ g, e = .returned (.tuple #[iv (tuW W H t) (tuH W H t) (some ⟨g, 0, none⟩) n n, fv 0 0]) ∧ w.heap.size ≤ g ∧
      w'.rowIs g 5 n (fun k => .int .u8 (tuF W H t p k)) ∧ Below w.heap.size w w' := by
  obtain ⟨e1, e2⟩ := it_tu (p := p) hi ht
  by_cases h : 4 ≤ t
  · refine (Turn_mi A n c W H t p w hi hr ⟨h, ht.2⟩).mono ?_
    rintro e w' ⟨g, rfl, hg, hrow, hb⟩
    refine ⟨g, by rw [e1], hg, hrow.congr fun i hi => ?_, hb⟩
    have := e2 i hi
    unfold prF at this
    rw [if_pos h] at this
    rw [this]
  · refine (Turn_pl A n c W H t p w hi hr ⟨ht.1, by omega⟩).mono ?_
    rintro e w' ⟨g, rfl, hg, hrow, hb⟩
    refine ⟨g, by rw [e1], hg, hrow.congr fun i hi => ?_, hb⟩
    have := e2 i hi
    unfold prF at this
    rw [if_neg h] at this
    rw [this]

end Go.Proofs.Ytpdjiokmafoppaa
