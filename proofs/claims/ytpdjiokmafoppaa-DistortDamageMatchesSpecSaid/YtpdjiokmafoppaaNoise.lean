/- distort.Noise. Conditions: the pixels and the numbers read. -/
import Derived.Test.YtpdjiokmafoppaaShifted
namespace Go.Proofs.Ytpdjiokmafoppaa
open Go.RowKit

/-- A pixel changed by noise. -/
def noF (p q : Nat → Int) (m : Nat) (k : Nat) : Int := min (max (p k + elF q m k) 0) 255
theorem noF_byt {p q : Nat → Int} {m : Nat} : Byt (noF p q m) := fun k => by unfold noF; omega

set_option maxHeartbeats 1000000 in
theorem Noise_img (A B : Option Addr) (n c m d : Nat) (W H : Int) (w : World) (hb : (imgF W H n).1 ≠ 0) :
    Calls Try.prog 70 #[iv W H A n c, .slice B m d] w fun e w' => e = .returned (.tuple #[iv 0 0 none 0 0, fv (imgF W H n).1 (imgF W H n).2]) ∧ Below w.heap.size w w' := by
  obtain ⟨c0, i0, hci⟩ : ∃ c0 i0, imgF W H n = (c0, i0) := ⟨_, _, rfl⟩
  have hb0 : (c0 == 0) = false := by rw [hci] at hb; simpa using hb
  have HCI := Lib.hid hci
  clear hb hci
  rw [HCI.out]
  go_enter Try.func70, Try.ntmps70
  go_wp2_with fail
  refine (rValidate_any A n c W H _).mono ?_
  rw [HCI.out]
  rintro e w1 ⟨rfl, hbw1⟩
  obtain ⟨hcw1, hfw1⟩ := bcell hbw1
  have hzw1 := hbw1.size
  try simp at hzw1
  have kw1 : Below w.heap.size w w1 := Below.trans (by repeat (first | (with_reducible assumption) | (with_reducible exact Below.refl _ _) | (with_reducible refine Below.drew ?_) | (with_reducible refine below_drewN ?_ _) | ((with_reducible refine Below.alloc ?_ ?_ _); rotate_left; (focus (first | exact Nat.le_refl _ | omega | (simp; done) | (simp; omega) | (simp at *; omega)))) | ((with_reducible refine Below.setCell ?_ ?_ _); rotate_left; (focus (first | exact Nat.le_refl _ | omega | (simp; done) | (simp; omega) | (simp at *; omega)))))) (hbw1.mono (by (focus (first | exact Nat.le_refl _ | omega | (simp; done) | (simp; omega) | (simp at *; omega)))))
  have kzw1 := kw1.size
  have lw1w0 : w.heap.size < w1.heap.size := by omega
  have lw1w1 : w.heap.size + 1 < w1.heap.size := by omega
  have lw1w2 : w.heap.size + 2 < w1.heap.size := by omega
  go_wp2
  go_region
  go_wp2
  refine bodyPost_ret (v := (.tuple #[iv 0 0 none 0 0, fv c0 i0])) (by simp [results, Try.results70, go_sem, *]) rfl ?_
  exact ⟨rfl, (by repeat (first | (with_reducible assumption) | (with_reducible exact Below.refl _ _) | (with_reducible refine Below.drew ?_) | (with_reducible refine below_drewN ?_ _) | ((with_reducible refine Below.alloc ?_ ?_ _); rotate_left; (focus (first | exact Nat.le_refl _ | omega | (simp; done) | (simp; omega) | (simp at *; omega)))) | ((with_reducible refine Below.setCell ?_ ?_ _); rotate_left; (focus (first | exact Nat.le_refl _ | omega | (simp; done) | (simp; omega) | (simp at *; omega))))))⟩

set_option maxHeartbeats 1000000 in
theorem Noise_list (A B : Option Addr) (n c m d : Nat) (W H : Int) (q : Nat → Int) (w : World) (hi : ImgOk W H n) (hq : RdI w B m q) (hb : (lsF q (-40) 40 m).1 ≠ 0) :
    Calls Try.prog 70 #[iv W H A n c, .slice B m d] w fun e w' => e = .returned (.tuple #[iv 0 0 none 0 0, fv (lsF q (-40) 40 m).1 (lsF q (-40) 40 m).2]) ∧ Below w.heap.size w w' := by
  have HQ := rd_later hq
  have HF := Lib.hid (imgF_ok hi)
  obtain ⟨c0, i0, hci⟩ : ∃ c0 i0, lsF q (-40) 40 m = (c0, i0) := ⟨_, _, rfl⟩
  have hb0 : (c0 == 0) = false := by rw [hci] at hb; simpa using hb
  have HCI := Lib.hid hci
  clear hb hci hq hi
  rw [HCI.out]
  go_enter Try.func70, Try.ntmps70
  go_wp2_with fail
  refine (rValidate_any A n c W H _).mono ?_
  rw [HF.out]
  rintro e w1 ⟨rfl, hbw1⟩
  obtain ⟨hcw1, hfw1⟩ := bcell hbw1
  have hzw1 := hbw1.size
  try simp at hzw1
  have kw1 : Below w.heap.size w w1 := Below.trans (by repeat (first | (with_reducible assumption) | (with_reducible exact Below.refl _ _) | (with_reducible refine Below.drew ?_) | (with_reducible refine below_drewN ?_ _) | ((with_reducible refine Below.alloc ?_ ?_ _); rotate_left; (focus (first | exact Nat.le_refl _ | omega | (simp; done) | (simp; omega) | (simp at *; omega)))) | ((with_reducible refine Below.setCell ?_ ?_ _); rotate_left; (focus (first | exact Nat.le_refl _ | omega | (simp; done) | (simp; omega) | (simp at *; omega)))))) (hbw1.mono (by (focus (first | exact Nat.le_refl _ | omega | (simp; done) | (simp; omega) | (simp at *; omega)))))
  have kzw1 := kw1.size
  have lw1w0 : w.heap.size < w1.heap.size := by omega
  have lw1w1 : w.heap.size + 1 < w1.heap.size := by omega
  have lw1w2 : w.heap.size + 2 < w1.heap.size := by omega
  go_wp2_with fail
  refine (checkList_any B m d q (-40) 40 _ (HQ.out _ (by repeat (first | (with_reducible assumption) | (with_reducible exact Below.refl _ _) | (with_reducible refine Below.drew ?_) | (with_reducible refine below_drewN ?_ _) | ((with_reducible refine Below.alloc ?_ ?_ _); rotate_left; (focus (first | exact Nat.le_refl _ | omega | (simp; done) | (simp; omega) | (simp at *; omega)))) | ((with_reducible refine Below.setCell ?_ ?_ _); rotate_left; (focus (first | exact Nat.le_refl _ | omega | (simp; done) | (simp; omega) | (simp at *; omega)))))))).mono ?_
  rw [HCI.out]
  rintro e w2 ⟨rfl, hbw2⟩
  obtain ⟨hcw2, hfw2⟩ := bcell hbw2
  have hzw2 := hbw2.size
  try simp at hzw2
  have kw2 : Below w.heap.size w w2 := Below.trans (by repeat (first | (with_reducible assumption) | (with_reducible exact Below.refl _ _) | (with_reducible refine Below.drew ?_) | (with_reducible refine below_drewN ?_ _) | ((with_reducible refine Below.alloc ?_ ?_ _); rotate_left; (focus (first | exact Nat.le_refl _ | omega | (simp; done) | (simp; omega) | (simp at *; omega)))) | ((with_reducible refine Below.setCell ?_ ?_ _); rotate_left; (focus (first | exact Nat.le_refl _ | omega | (simp; done) | (simp; omega) | (simp at *; omega)))))) (hbw2.mono (by (focus (first | exact Nat.le_refl _ | omega | (simp; done) | (simp; omega) | (simp at *; omega)))))
  have kzw2 := kw2.size
  have lw2w10 : w1.heap.size < w2.heap.size := by omega
  have lw2w0 : w.heap.size < w2.heap.size := by omega
  have lw2w1 : w.heap.size + 1 < w2.heap.size := by omega
  have lw2w2 : w.heap.size + 2 < w2.heap.size := by omega
  go_wp2
  go_region
  go_wp2
  refine bodyPost_ret (v := (.tuple #[iv 0 0 none 0 0, fv c0 i0])) (by simp [results, Try.results70, go_sem, *]) rfl ?_
  exact ⟨rfl, (by repeat (first | (with_reducible assumption) | (with_reducible exact Below.refl _ _) | (with_reducible refine Below.drew ?_) | (with_reducible refine below_drewN ?_ _) | ((with_reducible refine Below.alloc ?_ ?_ _); rotate_left; (focus (first | exact Nat.le_refl _ | omega | (simp; done) | (simp; omega) | (simp at *; omega)))) | ((with_reducible refine Below.setCell ?_ ?_ _); rotate_left; (focus (first | exact Nat.le_refl _ | omega | (simp; done) | (simp; omega) | (simp at *; omega))))))⟩

set_option maxHeartbeats 4000000 in
set_option maxRecDepth 100000 in
theorem Noise_ok (A B : Option Addr) (n c m d : Nat) (W H : Int) (p q : Nat → Int) (w : World) (hi : ImgOk W H n) (hp : Byt p) (hr : RdB w A n p) (hq : RdI w B m q) (hl : lsF q (-40) 40 m = (0, 0)) (hm : m ≤ 700) (hb : ∀ i, i < m → -40 ≤ q i ∧ q i ≤ 40) :
    Calls Try.prog 70 #[iv W H A n c, .slice B m d] w fun e w' => ∃ g, e = .returned (.tuple #[iv W H (some ⟨g, 0, none⟩) n n, fv 0 0]) ∧ w.heap.size ≤ g ∧ w'.rowIs g 5 n (fun k => .int .u8 (noF p q m k)) ∧ Below w.heap.size w w' := by
  have HR := rd_later hr
  have HQ := rd_later hq
  have HI := Lib.hid hi
  have HF := Lib.hid (imgF_ok hi)
  have HL := Lib.hid hl
  have HB := Lib.hid hb
  have hnb : n ≤ 409600 := by have := mul_bd ⟨hi.w1, hi.w2⟩ ⟨hi.h1, hi.h2⟩; have := hi.len; omega
  clear hr hi hl hb
  go_enter Try.func70, Try.ntmps70
  go_wp2_with fail
  refine (rValidate_any A n c W H _).mono ?_
  rw [HF.out]
  rintro e w1 ⟨rfl, hbw1⟩
  have hzw1 := hbw1.size
  try simp at hzw1
  have kw1 : Below w.heap.size w w1 := Below.trans (by repeat (first | (with_reducible assumption) | (with_reducible exact Below.refl _ _) | (with_reducible refine Below.drew ?_) | (with_reducible refine below_drewN ?_ _) | ((with_reducible refine Below.alloc ?_ ?_ _); rotate_left; (focus (first | exact Nat.le_refl _ | omega | (simp; done) | (simp; omega) | (simp at *; omega)))) | ((with_reducible refine Below.setCell ?_ ?_ _); rotate_left; (focus (first | exact Nat.le_refl _ | omega | (simp; done) | (simp; omega) | (simp at *; omega)))))) (hbw1.mono (by (focus (first | exact Nat.le_refl _ | omega | (simp; done) | (simp; omega) | (simp at *; omega)))))
  have kzw1 := kw1.size
  try have lww1 : w.heap.size < w1.heap.size := by omega
  have Bin : Blk w1 (w.heap.size) 26 #[.int .i64 W, .int .i64 H, .slice A n c] := Blk.below (by repeat (first | (with_reducible assumption) | (with_reducible exact Blk.new _ _ _) | ((with_reducible refine Blk.new_at _ _ _ ?_); (focus (first | (simp; done) | omega))) | (with_reducible refine Blk.drew ?_) | (with_reducible refine Blk.drewN ?_ _) | (with_reducible refine Blk.alloc ?_ _) | ((with_reducible refine Blk.far ?_ ?_ _); rotate_left; (focus (first | (simp; done) | (simp; omega) | omega))))) hbw1 (by (focus (first | omega | (simp; done) | (simp; omega) | (simp at *; omega))))
  try clear ci fi
  try clear Bi
  have Bi := Bin
  clear Bin
  have ci := Bi.cell
  have fi := Bi.frozen
  have liw1 := Bi.lt
  have Ban : Blk w1 (w.heap.size + 1) 26 #[.int .i64 0, .int .i64 0, .slice none 0 0] := Blk.below (by repeat (first | (with_reducible assumption) | (with_reducible exact Blk.new _ _ _) | ((with_reducible refine Blk.new_at _ _ _ ?_); (focus (first | (simp; done) | omega))) | (with_reducible refine Blk.drew ?_) | (with_reducible refine Blk.drewN ?_ _) | (with_reducible refine Blk.alloc ?_ _) | ((with_reducible refine Blk.far ?_ ?_ _); rotate_left; (focus (first | (simp; done) | (simp; omega) | omega))))) hbw1 (by (focus (first | omega | (simp; done) | (simp; omega) | (simp at *; omega))))
  try clear ca fa
  try clear Ba
  have Ba := Ban
  clear Ban
  have ca := Ba.cell
  have fa := Ba.frozen
  have law1 := Ba.lt
  have Bbn : Blk w1 (w.heap.size + 1 + 1) 28 #[.int .i64 0, .int .i64 0] := Blk.below (by repeat (first | (with_reducible assumption) | (with_reducible exact Blk.new _ _ _) | ((with_reducible refine Blk.new_at _ _ _ ?_); (focus (first | (simp; done) | omega))) | (with_reducible refine Blk.drew ?_) | (with_reducible refine Blk.drewN ?_ _) | (with_reducible refine Blk.alloc ?_ _) | ((with_reducible refine Blk.far ?_ ?_ _); rotate_left; (focus (first | (simp; done) | (simp; omega) | omega))))) hbw1 (by (focus (first | omega | (simp; done) | (simp; omega) | (simp at *; omega))))
  try clear cb fb
  try clear Bb
  have Bb := Bbn
  clear Bbn
  have cb := Bb.cell
  have fb := Bb.frozen
  have lbw1 := Bb.lt
  go_wp2_with fail
  refine (checkList_any B m d q (-40) 40 _ (HQ.out _ (by repeat (first | (with_reducible assumption) | (with_reducible exact Below.refl _ _) | (with_reducible refine Below.drew ?_) | (with_reducible refine below_drewN ?_ _) | ((with_reducible refine Below.alloc ?_ ?_ _); rotate_left; (focus (first | exact Nat.le_refl _ | omega | (simp; done) | (simp; omega) | (simp at *; omega)))) | ((with_reducible refine Below.setCell ?_ ?_ _); rotate_left; (focus (first | exact Nat.le_refl _ | omega | (simp; done) | (simp; omega) | (simp at *; omega)))))))).mono ?_
  rw [HL.out]
  rintro e w2 ⟨rfl, hbw2⟩
  have hzw2 := hbw2.size
  try simp at hzw2
  have kw2 : Below w.heap.size w w2 := Below.trans (by repeat (first | (with_reducible assumption) | (with_reducible exact Below.refl _ _) | (with_reducible refine Below.drew ?_) | (with_reducible refine below_drewN ?_ _) | ((with_reducible refine Below.alloc ?_ ?_ _); rotate_left; (focus (first | exact Nat.le_refl _ | omega | (simp; done) | (simp; omega) | (simp at *; omega)))) | ((with_reducible refine Below.setCell ?_ ?_ _); rotate_left; (focus (first | exact Nat.le_refl _ | omega | (simp; done) | (simp; omega) | (simp at *; omega)))))) (hbw2.mono (by (focus (first | exact Nat.le_refl _ | omega | (simp; done) | (simp; omega) | (simp at *; omega)))))
  have kzw2 := kw2.size
  have kw1w2 : Below w1.heap.size w1 w2 := Below.trans (by repeat (first | (with_reducible assumption) | (with_reducible exact Below.refl _ _) | (with_reducible refine Below.drew ?_) | (with_reducible refine below_drewN ?_ _) | ((with_reducible refine Below.alloc ?_ ?_ _); rotate_left; (focus (first | exact Nat.le_refl _ | omega | (simp; done) | (simp; omega) | (simp at *; omega)))) | ((with_reducible refine Below.setCell ?_ ?_ _); rotate_left; (focus (first | exact Nat.le_refl _ | omega | (simp; done) | (simp; omega) | (simp at *; omega)))))) (hbw2.mono (by (focus (first | exact Nat.le_refl _ | omega | (simp; done) | (simp; omega) | (simp at *; omega)))))
  try have lww2 : w.heap.size < w2.heap.size := by omega
  try have lw1w2 : w1.heap.size < w2.heap.size := by omega
  have Bin : Blk w2 (w.heap.size) 26 #[.int .i64 W, .int .i64 H, .slice A n c] := Blk.below (by repeat (first | (with_reducible assumption) | (with_reducible exact Blk.new _ _ _) | ((with_reducible refine Blk.new_at _ _ _ ?_); (focus (first | (simp; done) | omega))) | (with_reducible refine Blk.drew ?_) | (with_reducible refine Blk.drewN ?_ _) | (with_reducible refine Blk.alloc ?_ _) | ((with_reducible refine Blk.far ?_ ?_ _); rotate_left; (focus (first | (simp; done) | (simp; omega) | omega))))) hbw2 (by (focus (first | omega | (simp; done) | (simp; omega) | (simp at *; omega))))
  try clear ci fi
  try clear Bi
  have Bi := Bin
  clear Bin
  have ci := Bi.cell
  have fi := Bi.frozen
  have liw2 := Bi.lt
  have Ban : Blk w2 (w.heap.size + 1) 26 #[.int .i64 0, .int .i64 0, .slice none 0 0] := Blk.below (by repeat (first | (with_reducible assumption) | (with_reducible exact Blk.new _ _ _) | ((with_reducible refine Blk.new_at _ _ _ ?_); (focus (first | (simp; done) | omega))) | (with_reducible refine Blk.drew ?_) | (with_reducible refine Blk.drewN ?_ _) | (with_reducible refine Blk.alloc ?_ _) | ((with_reducible refine Blk.far ?_ ?_ _); rotate_left; (focus (first | (simp; done) | (simp; omega) | omega))))) hbw2 (by (focus (first | omega | (simp; done) | (simp; omega) | (simp at *; omega))))
  try clear ca fa
  try clear Ba
  have Ba := Ban
  clear Ban
  have ca := Ba.cell
  have fa := Ba.frozen
  have law2 := Ba.lt
  have Bbn : Blk w2 (w.heap.size + 1 + 1) 28 #[.int .i64 0, .int .i64 0] := Blk.below (by repeat (first | (with_reducible assumption) | (with_reducible exact Blk.new _ _ _) | ((with_reducible refine Blk.new_at _ _ _ ?_); (focus (first | (simp; done) | omega))) | (with_reducible refine Blk.drew ?_) | (with_reducible refine Blk.drewN ?_ _) | (with_reducible refine Blk.alloc ?_ _) | ((with_reducible refine Blk.far ?_ ?_ _); rotate_left; (focus (first | (simp; done) | (simp; omega) | omega))))) hbw2 (by (focus (first | omega | (simp; done) | (simp; omega) | (simp at *; omega))))
  try clear cb fb
  try clear Bb
  have Bb := Bbn
  clear Bbn
  have cb := Bb.cell
  have fb := Bb.frozen
  have lbw2 := Bb.lt
  go_wp2_with fail
  refine (copyOf_any A n c W H p (by omega) _ (HR.out _ (by repeat (first | (with_reducible assumption) | (with_reducible exact Below.refl _ _) | (with_reducible refine Below.drew ?_) | (with_reducible refine below_drewN ?_ _) | ((with_reducible refine Below.alloc ?_ ?_ _); rotate_left; (focus (first | exact Nat.le_refl _ | omega | (simp; done) | (simp; omega) | (simp at *; omega)))) | ((with_reducible refine Below.setCell ?_ ?_ _); rotate_left; (focus (first | exact Nat.le_refl _ | omega | (simp; done) | (simp; omega) | (simp at *; omega)))))))).mono ?_
  rintro e w3 ⟨rfl, hrow, hbw3⟩
  have Hrow := Lib.hid hrow
  have hgl := hrow.lt
  clear hrow
  have hzw3 := hbw3.size
  try simp at hzw3
  have kw3 : Below w.heap.size w w3 := Below.trans (by repeat (first | (with_reducible assumption) | (with_reducible exact Below.refl _ _) | (with_reducible refine Below.drew ?_) | (with_reducible refine below_drewN ?_ _) | ((with_reducible refine Below.alloc ?_ ?_ _); rotate_left; (focus (first | exact Nat.le_refl _ | omega | (simp; done) | (simp; omega) | (simp at *; omega)))) | ((with_reducible refine Below.setCell ?_ ?_ _); rotate_left; (focus (first | exact Nat.le_refl _ | omega | (simp; done) | (simp; omega) | (simp at *; omega)))))) (hbw3.mono (by (focus (first | exact Nat.le_refl _ | omega | (simp; done) | (simp; omega) | (simp at *; omega)))))
  have kzw3 := kw3.size
  have kw1w3 : Below w1.heap.size w1 w3 := Below.trans (by repeat (first | (with_reducible assumption) | (with_reducible exact Below.refl _ _) | (with_reducible refine Below.drew ?_) | (with_reducible refine below_drewN ?_ _) | ((with_reducible refine Below.alloc ?_ ?_ _); rotate_left; (focus (first | exact Nat.le_refl _ | omega | (simp; done) | (simp; omega) | (simp at *; omega)))) | ((with_reducible refine Below.setCell ?_ ?_ _); rotate_left; (focus (first | exact Nat.le_refl _ | omega | (simp; done) | (simp; omega) | (simp at *; omega)))))) (hbw3.mono (by (focus (first | exact Nat.le_refl _ | omega | (simp; done) | (simp; omega) | (simp at *; omega)))))
  have kw2w3 : Below w2.heap.size w2 w3 := Below.trans (by repeat (first | (with_reducible assumption) | (with_reducible exact Below.refl _ _) | (with_reducible refine Below.drew ?_) | (with_reducible refine below_drewN ?_ _) | ((with_reducible refine Below.alloc ?_ ?_ _); rotate_left; (focus (first | exact Nat.le_refl _ | omega | (simp; done) | (simp; omega) | (simp at *; omega)))) | ((with_reducible refine Below.setCell ?_ ?_ _); rotate_left; (focus (first | exact Nat.le_refl _ | omega | (simp; done) | (simp; omega) | (simp at *; omega)))))) (hbw3.mono (by (focus (first | exact Nat.le_refl _ | omega | (simp; done) | (simp; omega) | (simp at *; omega)))))
  try have lww3 : w.heap.size < w3.heap.size := by omega
  try have lw1w3 : w1.heap.size < w3.heap.size := by omega
  try have lw2w3 : w2.heap.size < w3.heap.size := by omega
  have Bin : Blk w3 (w.heap.size) 26 #[.int .i64 W, .int .i64 H, .slice A n c] := Blk.below (by repeat (first | (with_reducible assumption) | (with_reducible exact Blk.new _ _ _) | ((with_reducible refine Blk.new_at _ _ _ ?_); (focus (first | (simp; done) | omega))) | (with_reducible refine Blk.drew ?_) | (with_reducible refine Blk.drewN ?_ _) | (with_reducible refine Blk.alloc ?_ _) | ((with_reducible refine Blk.far ?_ ?_ _); rotate_left; (focus (first | (simp; done) | (simp; omega) | omega))))) hbw3 (by (focus (first | omega | (simp; done) | (simp; omega) | (simp at *; omega))))
  try clear ci fi
  try clear Bi
  have Bi := Bin
  clear Bin
  have ci := Bi.cell
  have fi := Bi.frozen
  have liw3 := Bi.lt
  have Ban : Blk w3 (w.heap.size + 1) 26 #[.int .i64 0, .int .i64 0, .slice none 0 0] := Blk.below (by repeat (first | (with_reducible assumption) | (with_reducible exact Blk.new _ _ _) | ((with_reducible refine Blk.new_at _ _ _ ?_); (focus (first | (simp; done) | omega))) | (with_reducible refine Blk.drew ?_) | (with_reducible refine Blk.drewN ?_ _) | (with_reducible refine Blk.alloc ?_ _) | ((with_reducible refine Blk.far ?_ ?_ _); rotate_left; (focus (first | (simp; done) | (simp; omega) | omega))))) hbw3 (by (focus (first | omega | (simp; done) | (simp; omega) | (simp at *; omega))))
  try clear ca fa
  try clear Ba
  have Ba := Ban
  clear Ban
  have ca := Ba.cell
  have fa := Ba.frozen
  have law3 := Ba.lt
  have Bbn : Blk w3 (w.heap.size + 1 + 1) 28 #[.int .i64 0, .int .i64 0] := Blk.below (by repeat (first | (with_reducible assumption) | (with_reducible exact Blk.new _ _ _) | ((with_reducible refine Blk.new_at _ _ _ ?_); (focus (first | (simp; done) | omega))) | (with_reducible refine Blk.drew ?_) | (with_reducible refine Blk.drewN ?_ _) | (with_reducible refine Blk.alloc ?_ _) | ((with_reducible refine Blk.far ?_ ?_ _); rotate_left; (focus (first | (simp; done) | (simp; omega) | omega))))) hbw3 (by (focus (first | omega | (simp; done) | (simp; omega) | (simp at *; omega))))
  try clear cb fb
  try clear Bb
  have Bb := Bbn
  clear Bbn
  have cb := Bb.cell
  have fb := Bb.frozen
  have lbw3 := Bb.lt
  have H0 : LI w (w2.heap.size + 1 + 2) n (upTo 0 (fun k => .int .u8 (noF p q m k)) (fun k => .int .u8 (p k))) [(w.heap.size, 26, #[.int .i64 W, .int .i64 H, .slice A n c]), (w.heap.size + 1, 26, #[.int .i64 0, .int .i64 0, .slice none 0 0]), (w.heap.size + 1 + 1, 28, #[.int .i64 0, .int .i64 0]),
      (w3.heap.size, 26, #[.int .i64 W, .int .i64 H, .slice (some ⟨w2.heap.size + 1 + 2, 0, none⟩) n n])] (w3.alloc (.cells #[.int .i64 W, .int .i64 H, .slice (some ⟨w2.heap.size + 1 + 2, 0, none⟩) n n] 26)) := by
    simp at hgl
    refine ⟨?_, ?_, by omega, (by repeat (first | (with_reducible assumption) | (with_reducible exact Below.refl _ _) | (with_reducible refine Below.drew ?_) | (with_reducible refine below_drewN ?_ _) | ((with_reducible refine Below.alloc ?_ ?_ _); rotate_left; (focus (first | exact Nat.le_refl _ | omega | (simp; done) | (simp; omega) | (simp at *; omega)))) | ((with_reducible refine Below.setCell ?_ ?_ _); rotate_left; (focus (first | exact Nat.le_refl _ | omega | (simp; done) | (simp; omega) | (simp at *; omega))))))⟩
    · rw [upTo_zero]; exact (by simpa using Hrow.out : w3.rowIs (w2.heap.size + 1 + 2) 5 n _).alloc _
    · intro x hx
      simp only [List.mem_cons, List.not_mem_nil, or_false] at hx
      rcases hx with rfl | rfl | rfl | rfl
      · exact ⟨Bi.alloc _, by simp; omega⟩
      · exact ⟨Ba.alloc _, by simp; omega⟩
      · exact ⟨Bb.alloc _, by simp; omega⟩
      · exact ⟨Blk.new _ _ _, by simp; omega⟩
  rcases Nat.eq_zero_or_pos m with rfl | hpos
  · have HP : Hid (∀ k, k < n → p k = noF p q 0 k) := Lib.hid fun k _ => by
      have := hp k
      unfold noF elF
      rw [if_pos rfl]
      omega
    have hgl2 : w.heap.size ≤ w2.heap.size + 1 + 2 := by omega
    go_wp2
    refine bodyPost_ret (v := (.tuple #[iv W H (some ⟨w2.heap.size + 1 + 2, 0, none⟩) n n, fv 0 0])) (by simp [results, Try.results70, go_sem, *]) rfl ?_
    refine ⟨_, rfl, hgl2, ?_, (by repeat (first | (with_reducible assumption) | (with_reducible exact Below.refl _ _) | (with_reducible refine Below.drew ?_) | (with_reducible refine below_drewN ?_ _) | ((with_reducible refine Below.alloc ?_ ?_ _); rotate_left; (focus (first | exact Nat.le_refl _ | omega | (simp; done) | (simp; omega) | (simp at *; omega)))) | ((with_reducible refine Below.setCell ?_ ?_ _); rotate_left; (focus (first | exact Nat.le_refl _ | omega | (simp; done) | (simp; omega) | (simp at *; omega))))))⟩
    have : w3.rowIs (w2.heap.size + 1 + 2) 5 n (fun k => .int .u8 (noF p q 0 k)) := (by simpa using Hrow.out : w3.rowIs (w2.heap.size + 1 + 2) 5 n _).congr fun i hi => by rw [HP.out i hi]
    exact (by repeat (first | (with_reducible assumption) | (with_reducible refine World.rowIs.drew ?_) | (with_reducible refine rowIs_drewN ?_ _) | (with_reducible refine World.rowIs.alloc ?_ _) | ((with_reducible refine World.rowIs.setOther ?_ ?_ _); rotate_left; (focus (first | (simp; done) | (simp; omega) | omega)))))
  · obtain ⟨bq, oq, hBq, hcq⟩ := hq hpos
    have hqlt : bq < w.heap.size := World.block_lt_of_cell? _ _ (hcq 0 hpos)
    have HCQ := Lib.hid hcq
    have HPp := Lib.hid hp
    subst hBq
    have HGE := Lib.hid (show w.heap.size ≤ w2.heap.size + 1 + 2 by omega)
    have m1 : (0 : Int) < (m : Int) := by omega
    clear Bi Ba Bb ca fa cb fb Hrow hbw3 hcq hq hp
    go_wp2
    clear ci fi
    go_loopg [33] n (fun gk s wr => ∃ k : Nat, k ≤ n ∧ gk = n - k ∧ s = .int .i64 k ∧ LI w (w2.heap.size + 1 + 2) n (upTo k (fun k => .int .u8 (noF p q m k)) (fun k => .int .u8 (p k))) [(w.heap.size, 26, #[.int .i64 W, .int .i64 H, .slice A n c]), (w.heap.size + 1, 26, #[.int .i64 0, .int .i64 0, .slice none 0 0]), (w.heap.size + 1 + 1, 28, #[.int .i64 0, .int .i64 0]),
      (w3.heap.size, 26, #[.int .i64 W, .int .i64 H, .slice (some ⟨w2.heap.size + 1 + 2, 0, none⟩) n n])] wr)
    case atStart => exact ⟨0, by omega, rfl, rfl, H0⟩
    case round =>
      obtain ⟨k, hk, rfl, rfl, hI⟩ := hrel
      clear H0
      have HS := Lib.hid hI
      have Bo := hI.b (b := w3.heap.size) (t := 26) (cs := #[.int .i64 W, .int .i64 H, .slice (some ⟨w2.heap.size + 1 + 2, 0, none⟩) n n]) (by simp)
      have co := Bo.cell
      by_cases hlt : k < n
      · have lo := Bo.lt
        have no := (hI.blk (w3.heap.size, 26, #[.int .i64 W, .int .i64 H, .slice (some ⟨w2.heap.size + 1 + 2, 0, none⟩) n n]) (by simp)).2
        have st := hI.row.cell hlt
        have fz := hI.row.frozen k
        have hmm : ¬ (m : Int) = 0 := by omega
        have hm0 : ¬ m = 0 := by omega
        obtain ⟨j, hj⟩ : ∃ j : Nat, (j : Int) = (k : Int) % m := ⟨((k : Int) % m).toNat, by have := Int.emod_nonneg (k : Int) hmm; omega⟩
        have hjm : j < m := by have := Int.emod_lt_of_pos (k : Int) m1; omega
        have he : elF q m k = q j := by unfold elF; rw [if_neg hm0, ← hj]; rfl
        have hqj := HB.out j hjm
        have hpk := HPp.out k
        have HN : Hid (noF p q m k = min (max (p k + q j) 0) 255) := Lib.hid (by unfold noF; rw [he])
        obtain ⟨b, off, rfl, hcl⟩ := HR.out _ hI.bel (by omega)
        have hck := hcl k hlt
        have HIb := Lib.hid hI.bel
        have CS : Hid (∀ X, Below wr.heap.size wr X → X.cell? ⟨w3.heap.size, 2, none⟩ = some (.slice (some ⟨w2.heap.size + 1 + 2, 0, none⟩) n n) ∧ X.cell? ⟨bq, oq + j, none⟩ = some (.int .i64 (q j))) :=
          Lib.hid fun X h => ⟨(Bo.below h lo).cell 2, ((HIb.out.trans (h.mono HIb.out.size)).cell (p := ⟨bq, oq + j, none⟩) hqlt).trans (HCQ.out j hjm)⟩
        have CT : Hid (∀ X v, Below wr.heap.size wr X → (X.setCell ⟨w2.heap.size + 1 + 2, k, none⟩ v).cell? ⟨w3.heap.size, 2, none⟩ = some (.slice (some ⟨w2.heap.size + 1 + 2, 0, none⟩) n n) ∧ (X.setCell ⟨w2.heap.size + 1 + 2, k, none⟩ v).cell? ⟨bq, oq + j, none⟩ = some (.int .i64 (q j))) :=
          Lib.hid fun X v h => ⟨((Bo.below h lo).far no v).cell 2, (((HIb.out.trans (h.mono HIb.out.size)).setCell HGE.out _).cell (p := ⟨bq, oq + j, none⟩) hqlt).trans (HCQ.out j hjm)⟩
        have u1 : (k : Int).tmod m = (j : Int) := by rw [hj]; exact Int.tmod_eq_emod_of_nonneg (by omega)
        have u2 : IntKind.i64.wrap (j : Int) = (j : Int) := IntWalk.i64_in _ (by omega)
        have u3 : IntKind.i64.wrap (p k) = p k := IntWalk.i64_in _ (by omega)
        have u4 : IntKind.i64.wrap (p k + q j) = p k + q j := IntWalk.i64_in _ (by omega)
        have j1 : (0 : Int) ≤ (j : Int) := by omega
        have j2 : (j : Int) < (m : Int) := by omega
        clear hcl hI hj he Bo
        by_cases h0 : p k + q j < 0
        · have HV : Hid (noF p q m k = 0) := Lib.hid (by rw [HN.out]; omega)
          have u5 : IntKind.u8.wrap (0) = 0 := IntWalk.u8_in _ (by omega)
          go_wp2_with fail
          go_region_held3 (fun X => X.cell? ⟨w3.heap.size, 2, none⟩ = some (.slice (some ⟨w2.heap.size + 1 + 2, 0, none⟩) n n) ∧ X.cell? ⟨bq, oq + j, none⟩ = some (.int .i64 (q j)))
            (first | exact CT.out _ _ (by repeat (first | (with_reducible assumption) | (with_reducible exact Below.refl _ _) | (with_reducible refine Below.drew ?_) | (with_reducible refine below_drewN ?_ _) | ((with_reducible refine Below.alloc ?_ ?_ _); rotate_left; (focus (first | exact Nat.le_refl _ | omega | (simp; done) | (simp; omega) | (simp at *; omega)))) | ((with_reducible refine Below.setCell ?_ ?_ _); rotate_left; (focus (first | exact Nat.le_refl _ | omega | (simp; done) | (simp; omega) | (simp at *; omega)))))) | exact CS.out _ (by repeat (first | (with_reducible assumption) | (with_reducible exact Below.refl _ _) | (with_reducible refine Below.drew ?_) | (with_reducible refine below_drewN ?_ _) | ((with_reducible refine Below.alloc ?_ ?_ _); rotate_left; (focus (first | exact Nat.le_refl _ | omega | (simp; done) | (simp; omega) | (simp at *; omega)))) | ((with_reducible refine Below.setCell ?_ ?_ _); rotate_left; (focus (first | exact Nat.le_refl _ | omega | (simp; done) | (simp; omega) | (simp at *; omega)))))))
            (fail)
          go_wp2
          go_roundg (n - (k + 1))
          case measure => omega
          case rel => exact ⟨k + 1, by omega, rfl, by go_num, (HS.out.step (w4 := wr) (Below.refl _ _) (by rw [HV.out])).mono (by repeat (first | (with_reducible assumption) | (with_reducible exact Below.refl _ _) | (with_reducible refine Below.drew ?_) | (with_reducible refine below_drewN ?_ _) | ((with_reducible refine Below.alloc ?_ ?_ _); rotate_left; (focus (first | exact Nat.le_refl _ | omega | (simp; done) | (simp; omega) | (simp at *; omega)))) | ((with_reducible refine Below.setCell ?_ ?_ _); rotate_left; (focus (first | exact Nat.le_refl _ | omega | (simp; done) | (simp; omega) | (simp at *; omega))))))⟩
        by_cases h1 : 255 < p k + q j
        · have HV : Hid (noF p q m k = 255) := Lib.hid (by rw [HN.out]; omega)
          have u5 : IntKind.u8.wrap (255) = 255 := IntWalk.u8_in _ (by omega)
          go_wp2_with fail
          go_region_held3 (fun X => X.cell? ⟨w3.heap.size, 2, none⟩ = some (.slice (some ⟨w2.heap.size + 1 + 2, 0, none⟩) n n) ∧ X.cell? ⟨bq, oq + j, none⟩ = some (.int .i64 (q j)))
            (first | exact CT.out _ _ (by repeat (first | (with_reducible assumption) | (with_reducible exact Below.refl _ _) | (with_reducible refine Below.drew ?_) | (with_reducible refine below_drewN ?_ _) | ((with_reducible refine Below.alloc ?_ ?_ _); rotate_left; (focus (first | exact Nat.le_refl _ | omega | (simp; done) | (simp; omega) | (simp at *; omega)))) | ((with_reducible refine Below.setCell ?_ ?_ _); rotate_left; (focus (first | exact Nat.le_refl _ | omega | (simp; done) | (simp; omega) | (simp at *; omega)))))) | exact CS.out _ (by repeat (first | (with_reducible assumption) | (with_reducible exact Below.refl _ _) | (with_reducible refine Below.drew ?_) | (with_reducible refine below_drewN ?_ _) | ((with_reducible refine Below.alloc ?_ ?_ _); rotate_left; (focus (first | exact Nat.le_refl _ | omega | (simp; done) | (simp; omega) | (simp at *; omega)))) | ((with_reducible refine Below.setCell ?_ ?_ _); rotate_left; (focus (first | exact Nat.le_refl _ | omega | (simp; done) | (simp; omega) | (simp at *; omega)))))))
            (fail)
          go_wp2
          go_roundg (n - (k + 1))
          case measure => omega
          case rel => exact ⟨k + 1, by omega, rfl, by go_num, (HS.out.step (w4 := wr) (Below.refl _ _) (by rw [HV.out])).mono (by repeat (first | (with_reducible assumption) | (with_reducible exact Below.refl _ _) | (with_reducible refine Below.drew ?_) | (with_reducible refine below_drewN ?_ _) | ((with_reducible refine Below.alloc ?_ ?_ _); rotate_left; (focus (first | exact Nat.le_refl _ | omega | (simp; done) | (simp; omega) | (simp at *; omega)))) | ((with_reducible refine Below.setCell ?_ ?_ _); rotate_left; (focus (first | exact Nat.le_refl _ | omega | (simp; done) | (simp; omega) | (simp at *; omega))))))⟩
        · have HV : Hid (noF p q m k = p k + q j) := Lib.hid (by rw [HN.out]; omega)
          have u5 : IntKind.u8.wrap (p k + q j) = p k + q j := IntWalk.u8_in _ (by omega)
          go_wp2_with fail
          go_region_held3 (fun X => X.cell? ⟨w3.heap.size, 2, none⟩ = some (.slice (some ⟨w2.heap.size + 1 + 2, 0, none⟩) n n) ∧ X.cell? ⟨bq, oq + j, none⟩ = some (.int .i64 (q j)))
            (first | exact CT.out _ _ (by repeat (first | (with_reducible assumption) | (with_reducible exact Below.refl _ _) | (with_reducible refine Below.drew ?_) | (with_reducible refine below_drewN ?_ _) | ((with_reducible refine Below.alloc ?_ ?_ _); rotate_left; (focus (first | exact Nat.le_refl _ | omega | (simp; done) | (simp; omega) | (simp at *; omega)))) | ((with_reducible refine Below.setCell ?_ ?_ _); rotate_left; (focus (first | exact Nat.le_refl _ | omega | (simp; done) | (simp; omega) | (simp at *; omega)))))) | exact CS.out _ (by repeat (first | (with_reducible assumption) | (with_reducible exact Below.refl _ _) | (with_reducible refine Below.drew ?_) | (with_reducible refine below_drewN ?_ _) | ((with_reducible refine Below.alloc ?_ ?_ _); rotate_left; (focus (first | exact Nat.le_refl _ | omega | (simp; done) | (simp; omega) | (simp at *; omega)))) | ((with_reducible refine Below.setCell ?_ ?_ _); rotate_left; (focus (first | exact Nat.le_refl _ | omega | (simp; done) | (simp; omega) | (simp at *; omega)))))))
            (fail)
          go_wp2
          go_roundg (n - (k + 1))
          case measure => omega
          case rel => exact ⟨k + 1, by omega, rfl, by go_num, (HS.out.step (w4 := wr) (Below.refl _ _) (by rw [HV.out])).mono (by repeat (first | (with_reducible assumption) | (with_reducible exact Below.refl _ _) | (with_reducible refine Below.drew ?_) | (with_reducible refine below_drewN ?_ _) | ((with_reducible refine Below.alloc ?_ ?_ _); rotate_left; (focus (first | exact Nat.le_refl _ | omega | (simp; done) | (simp; omega) | (simp at *; omega)))) | ((with_reducible refine Below.setCell ?_ ?_ _); rotate_left; (focus (first | exact Nat.le_refl _ | omega | (simp; done) | (simp; omega) | (simp at *; omega))))))⟩
      · obtain rfl : k = n := by omega
        have Ba := hI.b (b := w.heap.size + 1) (t := 26) (cs := #[.int .i64 0, .int .i64 0, .slice none 0 0]) (by simp)
        have Bb := hI.b (b := w.heap.size + 1 + 1) (t := 28) (cs := #[.int .i64 0, .int .i64 0]) (by simp)
        have ca := Ba.cell
        have fa := Ba.frozen
        have cb := Bb.cell
        have fb := Bb.frozen
        have Hrow := Lib.hid (hI.row.congr upTo_all)
        have hbel := hI.bel
        clear hI Bo
        go_wp2
        refine bodyPost_ret (v := (.tuple #[iv W H (some ⟨w2.heap.size + 1 + 2, 0, none⟩) k k, fv 0 0])) (by simp [results, Try.results70, go_sem, *]) rfl ?_
        refine ⟨_, rfl, HGE.out, ?_, (by repeat (first | (with_reducible assumption) | (with_reducible exact Below.refl _ _) | (with_reducible refine Below.drew ?_) | (with_reducible refine below_drewN ?_ _) | ((with_reducible refine Below.alloc ?_ ?_ _); rotate_left; (focus (first | exact Nat.le_refl _ | omega | (simp; done) | (simp; omega) | (simp at *; omega)))) | ((with_reducible refine Below.setCell ?_ ?_ _); rotate_left; (focus (first | exact Nat.le_refl _ | omega | (simp; done) | (simp; omega) | (simp at *; omega))))))⟩
        have := Hrow.out
        exact (by repeat (first | (with_reducible assumption) | (with_reducible refine World.rowIs.drew ?_) | (with_reducible refine rowIs_drewN ?_ _) | (with_reducible refine World.rowIs.alloc ?_ _) | ((with_reducible refine World.rowIs.setOther ?_ ?_ _); rotate_left; (focus (first | (simp; done) | (simp; omega) | omega)))))

end Go.Proofs.Ytpdjiokmafoppaa
