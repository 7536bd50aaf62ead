/- render.Draw at a valid page: its pixels are those of dpx. Conditions: the page is valid, the scale and the margins are in range, the cells read as bytes. -/
import Derived.Test.YtpdjiokmafoppaaDrawP
namespace Go.Proofs.Ytpdjiokmafoppaa
open Go.RowKit

set_option maxHeartbeats 1000000 in
theorem tcheck_ok (L : Int) (hL : L = 2 ∨ L = 4) (w : World) : Calls Try.prog 156 #[.int .i64 L] w fun e w' => e = .returned (fv 0 0) ∧ Below w.heap.size w w' := by
  rcases hL with rfl | rfl
  · go_enter Try.func156, Try.ntmps156
    go_wp2
    refine bodyPost_ret (v := (fv 0 0)) (by simp [results, Try.results156, go_sem, *]) rfl ?_
    exact ⟨rfl, (by repeat (first | (with_reducible assumption) | (with_reducible exact Below.refl _ _) | (with_reducible refine Below.drew ?_) | (with_reducible refine below_drewN ?_ _) | ((with_reducible refine Below.alloc ?_ ?_ _); rotate_left; (focus (first | exact Nat.le_refl _ | omega | (simp; done) | (simp; omega) | (simp at *; omega)))) | ((with_reducible refine Below.setCell ?_ ?_ _); rotate_left; (focus (first | exact Nat.le_refl _ | omega | (simp; done) | (simp; omega) | (simp at *; omega))))))⟩
  · go_enter Try.func156, Try.ntmps156
    go_wp2
    refine bodyPost_ret (v := (fv 0 0)) (by simp [results, Try.results156, go_sem, *]) rfl ?_
    exact ⟨rfl, (by repeat (first | (with_reducible assumption) | (with_reducible exact Below.refl _ _) | (with_reducible refine Below.drew ?_) | (with_reducible refine below_drewN ?_ _) | ((with_reducible refine Below.alloc ?_ ?_ _); rotate_left; (focus (first | exact Nat.le_refl _ | omega | (simp; done) | (simp; omega) | (simp at *; omega)))) | ((with_reducible refine Below.setCell ?_ ?_ _); rotate_left; (focus (first | exact Nat.le_refl _ | omega | (simp; done) | (simp; omega) | (simp at *; omega))))))⟩

set_option maxHeartbeats 1000000 in
theorem tshade_any (v L : Int) (hL : L = 2 ∨ L = 4) (hv : 0 ≤ v ∧ v < L) (w : World) : Calls Try.prog 158 #[.int .i64 v, .int .i64 L] w fun e w' => e = .returned (.int .i64 (shadeOf L v)) ∧ w = w' := by
  obtain ⟨_, _, b1, b2⟩ := shade_tab hL hv
  have b3 : 2 ≤ L ∧ L ≤ 4 := by omega
  have HF : Hid (shadeOf L v = 255 * (L - 1 - v) / (L - 1)) := Lib.hid rfl
  clear hL
  go_enter Try.func158, Try.ntmps158
  go_wp2
  go_ret
  exact ⟨by rw [HF.out]; rfl, rfl⟩

set_option maxHeartbeats 1000000 in
theorem Shade_ok (v L : Int) (hL : L = 2 ∨ L = 4) (hv : 0 ≤ v ∧ v < L) (w : World) : Calls Try.prog 97 #[.int .i64 v, .int .i64 L] w fun e w' => e = .returned (.tuple #[.int .i64 (shadeOf L v), fv 0 0]) ∧ Below w.heap.size w w' := by
  have HL := Lib.hid hL
  clear hL
  go_enter Try.func97, Try.ntmps97
  go_wp2_with fail
  refine (tcheck_ok L HL.out _).mono ?_
  rintro e w1 ⟨rfl, hbw1⟩
  obtain ⟨hcw1, hfw1⟩ := bcell hbw1
  have hzw1 := hbw1.size
  try simp at hzw1
  have kw1 : Below w.heap.size w w1 := Below.trans (by repeat (first | (with_reducible assumption) | (with_reducible exact Below.refl _ _) | (with_reducible refine Below.drew ?_) | (with_reducible refine below_drewN ?_ _) | ((with_reducible refine Below.alloc ?_ ?_ _); rotate_left; (focus (first | exact Nat.le_refl _ | omega | (simp; done) | (simp; omega) | (simp at *; omega)))) | ((with_reducible refine Below.setCell ?_ ?_ _); rotate_left; (focus (first | exact Nat.le_refl _ | omega | (simp; done) | (simp; omega) | (simp at *; omega)))))) (hbw1.mono (by (focus (first | exact Nat.le_refl _ | omega | (simp; done) | (simp; omega) | (simp at *; omega)))))
  have kzw1 := kw1.size
  have lw1w0 : w.heap.size < w1.heap.size := by omega
  go_wp2_with fail
  go_wp2_with fail
  refine (tshade_any v L HL.out hv _).mono ?_
  rintro e w' ⟨rfl, rfl⟩
  go_wp2
  refine bodyPost_ret (v := (.tuple #[.int .i64 (shadeOf L v), fv 0 0])) (by simp [results, Try.results97, go_sem, *]) rfl ?_
  exact ⟨rfl, (by repeat (first | (with_reducible assumption) | (with_reducible exact Below.refl _ _) | (with_reducible refine Below.drew ?_) | (with_reducible refine below_drewN ?_ _) | ((with_reducible refine Below.alloc ?_ ?_ _); rotate_left; (focus (first | exact Nat.le_refl _ | omega | (simp; done) | (simp; omega) | (simp at *; omega)))) | ((with_reducible refine Below.setCell ?_ ?_ _); rotate_left; (focus (first | exact Nat.le_refl _ | omega | (simp; done) | (simp; omega) | (simp at *; omega))))))⟩

set_option maxHeartbeats 1000000 in
theorem margin_any (n : Int) (w : World) : Calls Try.prog 94 #[.int .i64 n] w fun e w' => e = .returned (.bool (inB n 2 40)) ∧ w = w' := by
  by_cases h : 2 ≤ n
  · have HF : Hid (inB n 2 40 = decide (n ≤ 40)) := Lib.hid (by simp [inB, h])
    go_enter Try.func94, Try.ntmps94
    go_wp2
    go_ret
    exact ⟨by rw [HF.out]; rfl, rfl⟩
  · have HF : Hid (inB n 2 40 = false) := Lib.hid (inB_no (by omega))
    go_enter Try.func94, Try.ntmps94
    go_wp2
    go_ret
    exact ⟨by rw [HF.out]; rfl, rfl⟩

/-- What holds of the world while a page is being drawn: the first a pixels are there. -/
def DInv (w : World) (B1 : Nat) (L R s l t : Int) (A : Option Addr) (n c N : Nat) (p : Nat → Int) (wr : World) (a : Int) : Prop :=
  wr.rowIs (B1 + 1 + 1 + 1) 5 N (upTo a.toNat (fun k => .int .u8 (dpx L R s l t (58 * s + 2 * l) p k)) (fun _ => .int .u8 255)) ∧
  Blk wr w.heap.size 24 #[.int .i64 L, .int .i64 R, .int .i64 58, .slice A n c] ∧ Blk wr (w.heap.size + 1) 26 #[.int .i64 0, .int .i64 0, .slice none 0 0] ∧ Blk wr (w.heap.size + 1 + 1) 28 #[.int .i64 0, .int .i64 0] ∧
  Blk wr (B1 + 1) 26 #[.int .i64 (58 * s + 2 * l), .int .i64 (R * s + 2 * t), .slice (some ⟨B1 + 1 + 1 + 1, 0, none⟩) N N] ∧ w.heap.size + 1 + 1 + 1 ≤ B1 ∧ Below w.heap.size w wr

theorem DInv.gap {w : World} {B1 : Nat} {L R s l t : Int} {A : Option Addr} {n c N : Nat} {p : Nat → Int} {wr : World} {a b : Int} (h : DInv w B1 L R s l t A n c N p wr a) (hab : a ≤ b)
    (e : ∀ k : Nat, a ≤ k → (k : Int) < b → dpx L R s l t (58 * s + 2 * l) p k = 255) : DInv w B1 L R s l t A n c N p wr b := by
  refine ⟨?_, h.2⟩
  rw [← upTo_gap (a := a.toNat) (b := b.toNat) (by omega) (fun k h1 h2 => by show Value.int .u8 _ = _; rw [e k (by omega) (by omega)])]
  exact h.1

/-- One pixel more. -/
theorem DInv.step {w : World} {B1 : Nat} {L R s l t : Int} {A : Option Addr} {n c N : Nat} {p : Nat → Int} {wr w4 : World} {a v : Int} {i : Nat} (h : DInv w B1 L R s l t A n c N p wr a) (hb : Below wr.heap.size wr w4)
    (hi : i = a.toNat) (ha : 0 ≤ a) (hv : v = dpx L R s l t (58 * s + 2 * l) p a.toNat) : DInv w B1 L R s l t A n c N p (w4.setCell ⟨B1 + 1 + 1 + 1, i, none⟩ (.int .u8 v)) (a + 1) := by
  obtain ⟨hrow, Bg, Ba, Bb, Bo, hB1, hbel⟩ := h
  subst hi
  have hk := hbel.size
  have hrow4 := rowIs_below hrow hb hrow.lt
  have e : (a + 1).toNat = a.toNat + 1 := by omega
  refine ⟨by rw [e]; exact row_step hrow4 (by rw [hv]), (Bg.below hb Bg.lt).far (by (focus (first | (simp; done) | (simp; omega) | omega))) _, (Ba.below hb Ba.lt).far (by (focus (first | (simp; done) | (simp; omega) | omega))) _, (Bb.below hb Bb.lt).far (by (focus (first | (simp; done) | (simp; omega) | omega))) _, (Bo.below hb Bo.lt).far (by (focus (first | (simp; done) | (simp; omega) | omega))) _, hB1, ?_⟩
  exact (hbel.trans (hb.mono hk)).setCell (by (focus (first | exact Nat.le_refl _ | omega | (simp; done) | (simp; omega) | (simp at *; omega)))) _

theorem draw_idx {k j : Nat} {s l t R N : Int} (hs : 3 ≤ s ∧ s ≤ 6) (hl : 2 ≤ l ∧ l ≤ 40) (ht : 2 ≤ t ∧ t ≤ 40) (hk : (k : Int) < R * s) (hj : (j : Int) < 58 * s) (hN : N = (58 * s + 2 * l) * (R * s + 2 * t)) :
    0 ≤ (k + t) * (58 * s + 2 * l) ∧ (k + t) * (58 * s + 2 * l) + (j + l) < N := by
  have a := Int.mul_nonneg (show 0 ≤ k + t by omega) (show 0 ≤ 58 * s + 2 * l by omega)
  have b := Int.mul_le_mul_of_nonneg_right (show k + t + 1 ≤ R * s + 2 * t by omega) (show 0 ≤ 58 * s + 2 * l by omega)
  rw [Int.add_mul, Int.one_mul, Int.mul_comm (R * s + 2 * t)] at b
  omega

set_option maxHeartbeats 2000000 in
set_option maxRecDepth 100000 in
theorem Draw_ok (A : Option Addr) (n c N : Nat) (L R C s l t : Int) (p : Nat → Int) (w : World) (hg : GridOk L R C n p) (hp : Byt p) (hr : RdB w A n p) (hs : 3 ≤ s ∧ s ≤ 6) (hl : 2 ≤ l ∧ l ≤ 40) (ht : 2 ≤ t ∧ t ≤ 40)
    (hN : (N : Int) = (58 * s + 2 * l) * (R * s + 2 * t)) :
    Calls Try.prog 25 #[gv L R C A n c, .int .i64 s, .int .i64 l, .int .i64 t] w fun e w' => ∃ g, e = .returned (.tuple #[iv (58 * s + 2 * l) (R * s + 2 * t) (some ⟨g, 0, none⟩) N N, fv 0 0]) ∧ w.heap.size ≤ g ∧
      w'.rowIs g 5 N (fun k => .int .u8 (dpx L R s l t (58 * s + 2 * l) p k)) ∧ Below w.heap.size w w' := by
  obtain ⟨lv, rows, rfl, len, low⟩ := hg
  have hR : 53 ≤ R ∧ R ≤ 85 := by have := rowsOf_lv lv; omega
  have hnm : n ≤ maxLen := by unfold maxLen; omega
  have HG := Lib.hid (gridF_ok ⟨lv, rows, rfl, len, low⟩)
  obtain ⟨d1, d2, d3, d4, d5, d6⟩ := draw_bd hs hl ht hR
  have HR := rd_later hr
  have hNb : N ≤ 1073741824 := by omega
  have HN := Lib.hid hN
  have Hlow := Lib.hid low
  have Hlen := Lib.hid len
  have HL := Lib.hid lv
  have m1 := inB_yes hl.1 hl.2
  have m2 := inB_yes ht.1 ht.2
  clear hr hN low len rows lv
  obtain ⟨b, off, rfl, hcA⟩ := HR.out w (Below.refl _ _) (by have := Hlen.out; omega)
  have hbA := World.block_lt_of_cell? _ _ (hcA 0 (by have := Hlen.out; omega))
  have HcA := Lib.hid hcA
  clear hcA
  go_enter Try.func25, Try.ntmps25
  go_wp2_with fail
  refine (pValidate_any _ n c p L R 58 _ hnm hp (HR.out _ (by repeat (first | (with_reducible assumption) | (with_reducible exact Below.refl _ _) | (with_reducible refine Below.drew ?_) | (with_reducible refine below_drewN ?_ _) | ((with_reducible refine Below.alloc ?_ ?_ _); rotate_left; (focus (first | exact Nat.le_refl _ | omega | (simp; done) | (simp; omega) | (simp at *; omega)))) | ((with_reducible refine Below.setCell ?_ ?_ _); rotate_left; (focus (first | exact Nat.le_refl _ | omega | (simp; done) | (simp; omega) | (simp at *; omega)))))))).mono ?_
  rw [HG.out]
  rintro e w1 ⟨rfl, hbw1⟩
  have hzw1 := hbw1.size
  try simp at hzw1
  have kw1 : Below w.heap.size w w1 := Below.trans (by repeat (first | (with_reducible assumption) | (with_reducible exact Below.refl _ _) | (with_reducible refine Below.drew ?_) | (with_reducible refine below_drewN ?_ _) | ((with_reducible refine Below.alloc ?_ ?_ _); rotate_left; (focus (first | exact Nat.le_refl _ | omega | (simp; done) | (simp; omega) | (simp at *; omega)))) | ((with_reducible refine Below.setCell ?_ ?_ _); rotate_left; (focus (first | exact Nat.le_refl _ | omega | (simp; done) | (simp; omega) | (simp at *; omega)))))) (hbw1.mono (by (focus (first | exact Nat.le_refl _ | omega | (simp; done) | (simp; omega) | (simp at *; omega)))))
  have kzw1 := kw1.size
  have Bgn : Blk w1 (w.heap.size) 24 #[.int .i64 L, .int .i64 R, .int .i64 58, .slice (some ⟨b, off, none⟩) n c] := Blk.below (by repeat (first | (with_reducible assumption) | (with_reducible exact Blk.new _ _ _) | ((with_reducible refine Blk.new_at _ _ _ ?_); (focus (first | (simp; done) | omega))) | (with_reducible refine Blk.drew ?_) | (with_reducible refine Blk.drewN ?_ _) | (with_reducible refine Blk.alloc ?_ _) | ((with_reducible refine Blk.far ?_ ?_ _); rotate_left; (focus (first | (simp; done) | (simp; omega) | omega))))) hbw1 (by (focus (first | omega | (simp; done) | (simp; omega) | (simp at *; omega))))
  try clear cg fg
  try clear Bg
  have Bg := Bgn
  clear Bgn
  have cg := Bg.cell
  have fg := Bg.frozen
  have lgw1 := Bg.lt
  have Ban : Blk w1 (w.heap.size + 1) 26 #[.int .i64 0, .int .i64 0, .slice none 0 0] := Blk.below (by repeat (first | (with_reducible assumption) | (with_reducible exact Blk.new _ _ _) | ((with_reducible refine Blk.new_at _ _ _ ?_); (focus (first | (simp; done) | omega))) | (with_reducible refine Blk.drew ?_) | (with_reducible refine Blk.drewN ?_ _) | (with_reducible refine Blk.alloc ?_ _) | ((with_reducible refine Blk.far ?_ ?_ _); rotate_left; (focus (first | (simp; done) | (simp; omega) | omega))))) hbw1 (by (focus (first | omega | (simp; done) | (simp; omega) | (simp at *; omega))))
  try clear ca fa
  try clear Ba
  have Ba := Ban
  clear Ban
  have ca := Ba.cell
  have fa := Ba.frozen
  have law1 := Ba.lt
  have Bbn : Blk w1 (w.heap.size + 1 + 1) 28 #[.int .i64 0, .int .i64 0] := Blk.below (by repeat (first | (with_reducible assumption) | (with_reducible exact Blk.new _ _ _) | ((with_reducible refine Blk.new_at _ _ _ ?_); (focus (first | (simp; done) | omega))) | (with_reducible refine Blk.drew ?_) | (with_reducible refine Blk.drewN ?_ _) | (with_reducible refine Blk.alloc ?_ _) | ((with_reducible refine Blk.far ?_ ?_ _); rotate_left; (focus (first | (simp; done) | (simp; omega) | omega))))) hbw1 (by (focus (first | omega | (simp; done) | (simp; omega) | (simp at *; omega))))
  try clear cb fb
  try clear Bb
  have Bb := Bbn
  clear Bbn
  have cb := Bb.cell
  have fb := Bb.frozen
  have lbw1 := Bb.lt
  clear hbw1
  go_wp2_with fail
  refine (margin_any _ _).mono ?_
  rintro e w' ⟨rfl, rfl⟩
  go_wp2_with fail
  refine (margin_any _ _).mono ?_
  rintro e w' ⟨rfl, rfl⟩
  go_wp2_with fail
  refine (Repeat_any _ 255 _ N HN.out hNb _ ?hc).mono ?_
  case hc => rw [World.cell?_alloc_at _ _ _ _ (by simp)]; rfl
  rintro e w2 ⟨rfl, hrow2, hbw2⟩
  have Hrow2 := Lib.hid hrow2
  clear hrow2
  have hzw2 := hbw2.size
  try simp at hzw2
  have kw2 : Below w.heap.size w w2 := Below.trans (by repeat (first | (with_reducible assumption) | (with_reducible exact Below.refl _ _) | (with_reducible refine Below.drew ?_) | (with_reducible refine below_drewN ?_ _) | ((with_reducible refine Below.alloc ?_ ?_ _); rotate_left; (focus (first | exact Nat.le_refl _ | omega | (simp; done) | (simp; omega) | (simp at *; omega)))) | ((with_reducible refine Below.setCell ?_ ?_ _); rotate_left; (focus (first | exact Nat.le_refl _ | omega | (simp; done) | (simp; omega) | (simp at *; omega)))))) (hbw2.mono (by (focus (first | exact Nat.le_refl _ | omega | (simp; done) | (simp; omega) | (simp at *; omega)))))
  have kzw2 := kw2.size
  have Bgn : Blk w2 (w.heap.size) 24 #[.int .i64 L, .int .i64 R, .int .i64 58, .slice (some ⟨b, off, none⟩) n c] := Blk.below (by repeat (first | (with_reducible assumption) | (with_reducible exact Blk.new _ _ _) | ((with_reducible refine Blk.new_at _ _ _ ?_); (focus (first | (simp; done) | omega))) | (with_reducible refine Blk.drew ?_) | (with_reducible refine Blk.drewN ?_ _) | (with_reducible refine Blk.alloc ?_ _) | ((with_reducible refine Blk.far ?_ ?_ _); rotate_left; (focus (first | (simp; done) | (simp; omega) | omega))))) hbw2 (by (focus (first | omega | (simp; done) | (simp; omega) | (simp at *; omega))))
  try clear cg fg
  try clear Bg
  have Bg := Bgn
  clear Bgn
  have cg := Bg.cell
  have fg := Bg.frozen
  have lgw2 := Bg.lt
  have Ban : Blk w2 (w.heap.size + 1) 26 #[.int .i64 0, .int .i64 0, .slice none 0 0] := Blk.below (by repeat (first | (with_reducible assumption) | (with_reducible exact Blk.new _ _ _) | ((with_reducible refine Blk.new_at _ _ _ ?_); (focus (first | (simp; done) | omega))) | (with_reducible refine Blk.drew ?_) | (with_reducible refine Blk.drewN ?_ _) | (with_reducible refine Blk.alloc ?_ _) | ((with_reducible refine Blk.far ?_ ?_ _); rotate_left; (focus (first | (simp; done) | (simp; omega) | omega))))) hbw2 (by (focus (first | omega | (simp; done) | (simp; omega) | (simp at *; omega))))
  try clear ca fa
  try clear Ba
  have Ba := Ban
  clear Ban
  have ca := Ba.cell
  have fa := Ba.frozen
  have law2 := Ba.lt
  have Bbn : Blk w2 (w.heap.size + 1 + 1) 28 #[.int .i64 0, .int .i64 0] := Blk.below (by repeat (first | (with_reducible assumption) | (with_reducible exact Blk.new _ _ _) | ((with_reducible refine Blk.new_at _ _ _ ?_); (focus (first | (simp; done) | omega))) | (with_reducible refine Blk.drew ?_) | (with_reducible refine Blk.drewN ?_ _) | (with_reducible refine Blk.alloc ?_ _) | ((with_reducible refine Blk.far ?_ ?_ _); rotate_left; (focus (first | (simp; done) | (simp; omega) | omega))))) hbw2 (by (focus (first | omega | (simp; done) | (simp; omega) | (simp at *; omega))))
  try clear cb fb
  try clear Bb
  have Bb := Bbn
  clear Bbn
  have cb := Bb.cell
  have fb := Bb.frozen
  have lbw2 := Bb.lt
  have Bon : Blk w2 (w1.heap.size + 1) 26 #[.int .i64 (58 * s + 2 * l), .int .i64 (R * s + 2 * t), .slice none 0 0] := Blk.below (by repeat (first | (with_reducible assumption) | (with_reducible exact Blk.new _ _ _) | ((with_reducible refine Blk.new_at _ _ _ ?_); (focus (first | (simp; done) | omega))) | (with_reducible refine Blk.drew ?_) | (with_reducible refine Blk.drewN ?_ _) | (with_reducible refine Blk.alloc ?_ _) | ((with_reducible refine Blk.far ?_ ?_ _); rotate_left; (focus (first | (simp; done) | (simp; omega) | omega))))) hbw2 (by (focus (first | omega | (simp; done) | (simp; omega) | (simp at *; omega))))
  try clear co fo
  try clear Bo
  have Bo := Bon
  clear Bon
  have co := Bo.cell
  have fo := Bo.frozen
  have low2 := Bo.lt
  clear hbw2
  go_wp2
  have H0 : DInv w w1.heap.size L R s l t (some ⟨b, off, none⟩) n c N p (w2.setCell ⟨w1.heap.size + 1, 2, none⟩ (.slice (some ⟨w1.heap.size + 1 + 1 + 1, 0, none⟩) N N)) ((0 + t) * (58 * s + 2 * l) + l) := by
    refine DInv.gap (a := 0) ⟨?_, Bg.far (by simp; omega) _, Ba.far (by simp; omega) _, Bb.far (by simp; omega) _, ?_, by omega, (by repeat (first | (with_reducible assumption) | (with_reducible exact Below.refl _ _) | (with_reducible refine Below.drew ?_) | (with_reducible refine below_drewN ?_ _) | ((with_reducible refine Below.alloc ?_ ?_ _); rotate_left; (focus (first | exact Nat.le_refl _ | omega | (simp; done) | (simp; omega) | (simp at *; omega)))) | ((with_reducible refine Below.setCell ?_ ?_ _); rotate_left; (focus (first | exact Nat.le_refl _ | omega | (simp; done) | (simp; omega) | (simp at *; omega))))))⟩ ?_ ?_
    · rw [show (0 : Int).toNat = 0 from rfl, upTo_zero]
      have := Hrow2.out
      simp at this
      exact this.setOther (by first | (simp; done) | (simp; omega)) _
    · have := Bo.set_ 2 (.slice (some ⟨w1.heap.size + 1 + 1 + 1, 0, none⟩) N N)
      simpa using this
    · have := Int.mul_nonneg (show 0 ≤ 0 + t by omega) (show 0 ≤ 58 * s + 2 * l by omega)
      omega
    · intro k _ hk
      exact dpx_head (by omega) (by omega) hk
  clear Hrow2 Bg Ba Bb Bo cg fg ca fa cb fb co fo
  go_loopg [74] (R * s).toNat (fun gk y wr => ∃ k : Nat, (k : Int) ≤ R * s ∧ gk = (R * s).toNat - k ∧ y = .int .i64 k ∧ DInv w w1.heap.size L R s l t (some ⟨b, off, none⟩) n c N p wr ((k + t) * (58 * s + 2 * l) + l))
  case atStart => exact ⟨0, by omega, rfl, rfl, H0⟩
  case round =>
    obtain ⟨k, hk, rfl, rfl, hI⟩ := hrel
    clear H0
    obtain ⟨hrow, Bg, Ba, Bb, Bo, hB1, hbel⟩ := hI
    have cg := Bg.cell
    have e1 : (k + 1 + t) * (58 * s + 2 * l) = (k + t) * (58 * s + 2 * l) + (58 * s + 2 * l) := by rw [show k + 1 + t = (k + t) + 1 from by omega, Int.add_mul, Int.one_mul]
    have E1 := Lib.hid e1
    clear e1
    by_cases hlt : (k : Int) < R * s
    · have H1 : DInv w w1.heap.size L R s l t (some ⟨b, off, none⟩) n c N p wr ((k + t) * (58 * s + 2 * l) + (0 + l)) := by rw [Int.zero_add]; exact ⟨hrow, Bg, Ba, Bb, Bo, hB1, hbel⟩
      go_wp2
      clear hrow Bg Ba Bb Bo hB1 cg hbel
      go_loopg [81] (58 * s).toNat (fun gk x wi => ∃ j : Nat, (j : Int) ≤ 58 * s ∧ gk = (58 * s).toNat - j ∧ x = .int .i64 j ∧ DInv w w1.heap.size L R s l t (some ⟨b, off, none⟩) n c N p wi ((k + t) * (58 * s + 2 * l) + (j + l)))
      case atStart => exact ⟨0, by omega, rfl, rfl, H1⟩
      case round =>
        obtain ⟨j, hj, rfl, rfl, hI⟩ := hrel
        clear H1
        by_cases hjt : (j : Int) < 58 * s
        · obtain ⟨hrow, Bg, Ba, Bb, Bo, hB1, hbel⟩ := hI
          have cg := Bg.cell
          have co := Bo.cell
          have q1 : 0 ≤ (k : Int) / s ∧ (k : Int) / s < R := ⟨Int.ediv_nonneg (by omega) (by omega), (Int.ediv_lt_iff_lt_mul (by omega)).2 hlt⟩
          have q2 : 0 ≤ (j : Int) / s ∧ (j : Int) / s < 58 := ⟨Int.ediv_nonneg (by omega) (by omega), (Int.ediv_lt_iff_lt_mul (by omega)).2 hjt⟩
          have hn' : (n : Int) = R * 58 := Hlen.out
          obtain ⟨i, hi⟩ : ∃ i : Nat, (i : Int) = (k : Int) / s * 58 + (j : Int) / s := ⟨((k : Int) / s * 58 + (j : Int) / s).toNat, by omega⟩
          have hin : (i : Int) < (n : Int) := by omega
          have hi0 : (0 : Int) ≤ (i : Int) := by omega
          have hcell : wr.cell? ⟨b, off + i, none⟩ = some (.int .u8 (p i)) := (hbel.cell (p := ⟨b, off + i, none⟩) hbA).trans (HcA.out _ (by omega))
          have hlow := Hlow.out i (by omega)
          have hv : 0 ≤ p i ∧ p i < L := ⟨(hp i).1, hlow⟩
          have hpb := hp i
          obtain ⟨s1, s2, _, _⟩ := shade_tab HL.out hv
          obtain ⟨v1, v2⟩ := draw_idx hs hl ht hlt hjt HN.out
          have v3 : (N : Int) ≤ 252520 := by rw [HN.out]; exact d6
          have lo := Bo.lt
          have lg := Bg.lt
          have lb : b < wr.heap.size := by have := hbel.size; omega
          have lrow := hrow.lt
          have HI : Hid (DInv w w1.heap.size L R s l t (some ⟨b, off, none⟩) n c N p wr ((k + t) * (58 * s + 2 * l) + (j + l))) := Lib.hid ⟨hrow, Bg, Ba, Bb, Bo, hB1, hbel⟩
          have hst := hrow.cell (i := ((k + t) * (58 * s + 2 * l) + j + l).toNat) (by omega)
          have hfz := hrow.frozen ((k + t) * (58 * s + 2 * l) + j + l).toNat
          have HX : Hid (shadeOf L (p i) = dpx L R s l t (58 * s + 2 * l) p ((k + t) * (58 * s + 2 * l) + (j + l)).toNat) := Lib.hid (by
            rw [dpx_in (x := j) (y := k) (by omega) (by omega) ⟨by omega, hjt⟩ ⟨by omega, hlt⟩ (by omega), Int.mul_comm 58, ← hi, Int.toNat_natCast])
          have HS : Hid (∀ W, Below wr.heap.size wr W → W.cell? ⟨w.heap.size, 3, none⟩ = some (.slice (some ⟨b, off, none⟩) n c) ∧ W.cell? ⟨w.heap.size, 2, none⟩ = some (.int .i64 58) ∧ W.cell? ⟨w.heap.size, 0, none⟩ = some (.int .i64 L) ∧ W.cell? ⟨b, off + i, none⟩ = some (.int .u8 (p i))) :=
            Lib.hid fun W h => ⟨(h.cell (p := ⟨w.heap.size, 3, none⟩) lg).trans (cg 3), (h.cell (p := ⟨w.heap.size, 2, none⟩) lg).trans (cg 2), (h.cell (p := ⟨w.heap.size, 0, none⟩) lg).trans (cg 0), (h.cell (p := ⟨b, off + i, none⟩) lb).trans hcell⟩
          have u1 : (k : Int).tdiv s = (k : Int) / s := Int.tdiv_eq_ediv_of_nonneg (by omega)
          have u2 : (j : Int).tdiv s = (j : Int) / s := Int.tdiv_eq_ediv_of_nonneg (by omega)
          have u3 : (s == 0) = false := by simp; omega
          have u4 : IntKind.i64.wrap ((k : Int) / s) = (k : Int) / s := IntWalk.i64_in _ (by omega)
          have u5 : IntKind.i64.wrap ((j : Int) / s) = (j : Int) / s := IntWalk.i64_in _ (by omega)
          have u6 : IntKind.i64.wrap ((k : Int) / s * 58) = (k : Int) / s * 58 := IntWalk.i64_in _ (by omega)
          have u7 : IntKind.i64.wrap ((k : Int) / s * 58 + (j : Int) / s) = (i : Int) := by rw [hi]; exact IntWalk.i64_in _ (by omega)
          have u8 : IntKind.i64.wrap (p i) = p i := IntWalk.i64_in _ (by omega)
          have u9 : ¬ s = 0 := by omega
          clear hrow Bg Ba Bb Bo hlow hi hn' q1 q2
          go_upto_region 19 with fail
          go_cut [15] (fun s15 wx => s15 = .int .i64 (shadeOf L (p i)) ∧ Below wr.heap.size wr wx)
          case first =>
            go_region_held3 (fun w' => w'.cell? ⟨w.heap.size, 3, none⟩ = some (.slice (some ⟨b, off, none⟩) n c) ∧ w'.cell? ⟨w.heap.size, 2, none⟩ = some (.int .i64 58) ∧ w'.cell? ⟨w.heap.size, 0, none⟩ = some (.int .i64 L) ∧ w'.cell? ⟨b, off + i, none⟩ = some (.int .u8 (p i)))
              (exact HS.out _ (by repeat (first | (with_reducible assumption) | (with_reducible exact Below.refl _ _) | (with_reducible refine Below.drew ?_) | (with_reducible refine below_drewN ?_ _) | ((with_reducible refine Below.alloc ?_ ?_ _); rotate_left; (focus (first | exact Nat.le_refl _ | omega | (simp; done) | (simp; omega) | (simp at *; omega)))) | ((with_reducible refine Below.setCell ?_ ?_ _); rotate_left; (focus (first | exact Nat.le_refl _ | omega | (simp; done) | (simp; omega) | (simp at *; omega)))))))
              (first | (go_at_call 97; refine (Shade_ok _ _ HL.out hv _).mono ?_; rintro e w3 ⟨rfl, hb3⟩; obtain ⟨hc3, hf3⟩ := bcell hb3; have hz3 := hb3.size; have k3 : Below wr.heap.size wr w3 := Below.trans (by repeat (first | (with_reducible assumption) | (with_reducible exact Below.refl _ _) | (with_reducible refine Below.drew ?_) | (with_reducible refine below_drewN ?_ _) | ((with_reducible refine Below.alloc ?_ ?_ _); rotate_left; (focus (first | exact Nat.le_refl _ | omega | (simp; done) | (simp; omega) | (simp at *; omega)))) | ((with_reducible refine Below.setCell ?_ ?_ _); rotate_left; (focus (first | exact Nat.le_refl _ | omega | (simp; done) | (simp; omega) | (simp at *; omega)))))) (hb3.mono (by (focus (first | exact Nat.le_refl _ | omega | (simp; done) | (simp; omega) | (simp at *; omega)))))))
            all_goals (go_wp2_with fail; go_meet; exact ⟨rfl, (by repeat (first | (with_reducible assumption) | (with_reducible exact Below.refl _ _) | (with_reducible refine Below.drew ?_) | (with_reducible refine below_drewN ?_ _) | ((with_reducible refine Below.alloc ?_ ?_ _); rotate_left; (focus (first | exact Nat.le_refl _ | omega | (simp; done) | (simp; omega) | (simp at *; omega)))) | ((with_reducible refine Below.setCell ?_ ?_ _); rotate_left; (focus (first | exact Nat.le_refl _ | omega | (simp; done) | (simp; omega) | (simp at *; omega))))))⟩)
          case rest =>
            obtain ⟨rfl, hb4⟩ := hcut
            clear HS u1 u2 u3 u4 u5 u6 u7 u8 u9 cg
            have co4 := fun o => (hb4.cell (p := ⟨w1.heap.size + 1, o, none⟩) lo).trans (co o)
            have st4 := (hb4.cell (p := ⟨w1.heap.size + 1 + 1 + 1, ((k + t) * (58 * s + 2 * l) + j + l).toNat, none⟩) lrow).trans hst
            have fz4 := (hb4.frozen (p := ⟨w1.heap.size + 1 + 1 + 1, ((k + t) * (58 * s + 2 * l) + j + l).toNat, none⟩) lrow).trans hfz
            clear co hst hfz hcell
            go_wp2
            go_roundg ((58 * s).toNat - (j + 1))
            case measure => omega
            case rel =>
              refine ⟨j + 1, by omega, rfl, by go_num, ?_⟩
              have := HI.out.step hb4 (i := ((k + t) * (58 * s + 2 * l) + j + l).toNat) (by omega) (by omega) HX.out
              rw [show (k + t) * (58 * s + 2 * l) + (↑(j + 1) + l) = (k + t) * (58 * s + 2 * l) + (j + l) + 1 from by omega]
              exact this
        · have HE : DInv w w1.heap.size L R s l t (some ⟨b, off, none⟩) n c N p wr ((↑(k + 1) + t) * (58 * s + 2 * l) + l) := by
            refine hI.gap ?_ ?_
            · rw [Int.natCast_add, show ((1 : Nat) : Int) = 1 from rfl, E1.out]; omega
            · intro q h1 h2
              refine dpx_gap (y := k) (by omega) rfl (by omega) ?_ ?_
              · omega
              · rw [Int.natCast_add, show ((1 : Nat) : Int) = 1 from rfl] at h2; omega
          go_wp2
          go_roundg ((R * s).toNat - (k + 1))
          case measure => omega
          case rel => exact ⟨k + 1, by omega, rfl, by go_num, HE⟩
    · have ca := Ba.cell
      have fa := Ba.frozen
      have cb := Bb.cell
      have fb := Bb.frozen
      have co := Bo.cell
      have ek : (k : Int) = R * s := by omega
      have Hrow := Lib.hid (hrow.congr (g := fun k => .int .u8 (dpx L R s l t (58 * s + 2 * l) p k)) (fun i _ => by
        unfold upTo
        split
        · rfl
        · rw [dpx_tail (by omega)]
          rw [← ek]; omega))
      clear ek
      go_wp2
      refine bodyPost_ret (v := (.tuple #[iv (58 * s + 2 * l) (R * s + 2 * t) (some ⟨w1.heap.size + 1 + 1 + 1, 0, none⟩) N N, fv 0 0])) (by simp [results, Try.results25, go_sem, *]) rfl ?_
      refine ⟨_, rfl, by omega, ?_, (by repeat (first | (with_reducible assumption) | (with_reducible exact Below.refl _ _) | (with_reducible refine Below.drew ?_) | (with_reducible refine below_drewN ?_ _) | ((with_reducible refine Below.alloc ?_ ?_ _); rotate_left; (focus (first | exact Nat.le_refl _ | omega | (simp; done) | (simp; omega) | (simp at *; omega)))) | ((with_reducible refine Below.setCell ?_ ?_ _); rotate_left; (focus (first | exact Nat.le_refl _ | omega | (simp; done) | (simp; omega) | (simp at *; omega))))))⟩
      have := Hrow.out
      exact (by repeat (first | (with_reducible assumption) | (with_reducible refine World.rowIs.drew ?_) | (with_reducible refine rowIs_drewN ?_ _) | (with_reducible refine World.rowIs.alloc ?_ _) | ((with_reducible refine World.rowIs.setOther ?_ ?_ _); rotate_left; (focus (first | (simp; done) | (simp; omega) | omega)))))

end Go.Proofs.Ytpdjiokmafoppaa
