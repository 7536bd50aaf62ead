/- distort.ShiftRows. Conditions: the pixels and the numbers read. -/
import Derived.Test.YtpdjiokmafoppaaShifted
namespace Go.Proofs.Ytpdjiokmafoppaa
open Go.RowKit

/-- What stands at j when the first k rows are moved. -/
def srK (V W H : Int) (p q : Nat → Int) (m : Nat) (k : Nat) (j : Nat) : Value := if (j : Int) / V < k then .int .u8 (srF V W H p q m j) else .int .u8 255
theorem srK_0 {V W H : Int} {p q : Nat → Int} {m j : Nat} (hV : 1 ≤ V) : srK V W H p q m 0 j = .int .u8 255 := by
  unfold srK
  rw [if_neg]
  have := Int.ediv_nonneg (show (0 : Int) ≤ j by omega) (show 0 ≤ V by omega)
  omega
theorem srK_all {V W H : Int} {p q : Nat → Int} {m N h : Nat} (ho : ImgOk V H N) (hh : (h : Int) = H) : ∀ j, j < N → srK V W H p q m h j = .int .u8 (srF V W H p q m j) := fun j hj => by
  obtain ⟨_, hy, _⟩ := pix_bd ho hj
  unfold srK
  rw [if_pos (by omega)]
theorem srK_step {V W H : Int} {p q : Nat → Int} {m k off a u j : Nat} (hV : 1 ≤ V) (hu : (u : Int) = W) (hoff : (off : Int) = k * V + elF q m k) (ha : (a : Int) = k * W) (hk : (k : Int) < H) (he : 0 ≤ elF q m k ∧ elF q m k + W ≤ V) :
    (if off ≤ j ∧ j < off + u then (.int .u8 (p (a + (j - off))) : Value) else srK V W H p q m k j) = srK V W H p q m (k + 1) j := by
  have hj : (j : Int) / V * V + (j : Int) % V = j := by rw [Int.mul_comm]; exact Int.mul_ediv_add_emod _ _
  have hX0 := Int.emod_nonneg (j : Int) (show V ≠ 0 by omega)
  have hX1 := Int.emod_lt_of_pos (j : Int) (show 0 < V by omega)
  unfold srK srF mk2
  generalize (j : Int) / V = Y at *
  generalize (j : Int) % V = X at *
  generalize hE : elF q m k = E at *
  by_cases c : Y = k
  · subst c
    simp only []
    rw [if_neg (show ¬ (k : Int) < (k : Int) by omega), if_pos (show (k : Int) < ((k + 1 : Nat) : Int) by omega), hE]
    by_cases h : off ≤ j ∧ j < off + u
    · rw [if_pos h, px_in ⟨by omega, by omega⟩ ⟨by omega, hk⟩]
      congr 2; omega
    · rw [if_neg h, px_out (by omega)]
  · by_cases c2 : Y < k
    · have : (Y + 1) * V ≤ k * V := Int.mul_le_mul_of_nonneg_right (by omega) (by omega)
      rw [Int.add_mul] at this
      rw [if_neg (by omega), if_pos c2, if_pos (by omega)]
    · have : ((k : Int) + 1) * V ≤ Y * V := Int.mul_le_mul_of_nonneg_right (by omega) (by omega)
      rw [Int.add_mul] at this
      rw [if_neg (by omega), if_neg c2, if_neg (by omega)]

set_option maxHeartbeats 1000000 in
theorem ShiftRows_bad (A B : Option Addr) (n c m d : Nat) (W H : Int) (q : Nat → Int) (w : World) (hq : RdI w B m q) (hb : (shF (imgF W H n) (lsF q 0 24 m) (W + moF q m)).1 ≠ 0) :
    Calls Try.prog 62 #[iv W H A n c, .slice B m d] w fun e w' => e = .returned (.tuple #[iv 0 0 none 0 0, fv (shF (imgF W H n) (lsF q 0 24 m) (W + moF q m)).1 (shF (imgF W H n) (lsF q 0 24 m) (W + moF q m)).2]) ∧ Below w.heap.size w w' := by
  have HQ := rd_later hq
  clear hq
  obtain ⟨c0, i0, hci⟩ : ∃ c0 i0, shF (imgF W H n) (lsF q 0 24 m) (W + moF q m) = (c0, i0) := ⟨_, _, rfl⟩
  have hb0 : (c0 == 0) = false := by rw [hci] at hb; simpa using hb
  have HCI := Lib.hid hci
  clear hb hci
  rw [HCI.out]
  go_enter Try.func62, Try.ntmps62
  go_wp2_with fail
  refine (checkShifts_any A B n c m d W H W q _ (HQ.out _ (by repeat (first | (with_reducible assumption) | (with_reducible exact Below.refl _ _) | (with_reducible refine Below.drew ?_) | (with_reducible refine below_drewN ?_ _) | ((with_reducible refine Below.alloc ?_ ?_ _); rotate_left; (focus (first | exact Nat.le_refl _ | omega | (simp; done) | (simp; omega) | (simp at *; omega)))) | ((with_reducible refine Below.setCell ?_ ?_ _); rotate_left; (focus (first | exact Nat.le_refl _ | omega | (simp; done) | (simp; omega) | (simp at *; omega))))))) (.inl rfl)).mono ?_
  rw [HCI.out]
  rintro e w1 ⟨rfl, hbw1⟩
  obtain ⟨hcw1, hfw1⟩ := bcell hbw1
  have hzw1 := hbw1.size
  try simp at hzw1
  have kw1 : Below w.heap.size w w1 := Below.trans (by repeat (first | (with_reducible assumption) | (with_reducible exact Below.refl _ _) | (with_reducible refine Below.drew ?_) | (with_reducible refine below_drewN ?_ _) | ((with_reducible refine Below.alloc ?_ ?_ _); rotate_left; (focus (first | exact Nat.le_refl _ | omega | (simp; done) | (simp; omega) | (simp at *; omega)))) | ((with_reducible refine Below.setCell ?_ ?_ _); rotate_left; (focus (first | exact Nat.le_refl _ | omega | (simp; done) | (simp; omega) | (simp at *; omega)))))) (hbw1.mono (by (focus (first | exact Nat.le_refl _ | omega | (simp; done) | (simp; omega) | (simp at *; omega)))))
  have kzw1 := kw1.size
  have lw1w0 : w.heap.size < w1.heap.size := by omega
  have lw1w1 : w.heap.size + 1 < w1.heap.size := by omega
  have lw1w2 : w.heap.size + 2 < w1.heap.size := by omega
  go_wp2
  go_region
  go_wp2
  refine bodyPost_ret (v := (.tuple #[iv 0 0 none 0 0, fv c0 i0])) (by simp [results, Try.results62, go_sem, *]) rfl ?_
  exact ⟨rfl, (by repeat (first | (with_reducible assumption) | (with_reducible exact Below.refl _ _) | (with_reducible refine Below.drew ?_) | (with_reducible refine below_drewN ?_ _) | ((with_reducible refine Below.alloc ?_ ?_ _); rotate_left; (focus (first | exact Nat.le_refl _ | omega | (simp; done) | (simp; omega) | (simp at *; omega)))) | ((with_reducible refine Below.setCell ?_ ?_ _); rotate_left; (focus (first | exact Nat.le_refl _ | omega | (simp; done) | (simp; omega) | (simp at *; omega))))))⟩

set_option maxHeartbeats 1000000 in
theorem ShiftRows_nil (A B : Option Addr) (n c d : Nat) (W H : Int) (p q : Nat → Int) (w : World) (hi : ImgOk W H n) (hr : RdB w A n p) :
    Calls Try.prog 62 #[iv W H A n c, .slice B 0 d] w fun e w' => ∃ g, e = .returned (.tuple #[iv W H (some ⟨g, 0, none⟩) n n, fv 0 0]) ∧ w.heap.size ≤ g ∧ w'.rowIs g 5 n (fun k => .int .u8 (p k)) ∧ Below w.heap.size w w' := by
  have HR := rd_later hr
  have HF := Lib.hid (imgF_ok hi)
  have hnb : n ≤ 1073741824 := by have := mul_bd ⟨hi.w1, hi.w2⟩ ⟨hi.h1, hi.h2⟩; have := hi.len; omega
  have HC : Hid (shF (imgF W H n) (lsF q 0 24 0) (W + moF q 0) = (0, 0)) := Lib.hid (by
    rw [HF.out, show lsF q 0 24 0 = (0, 0) from lsF_ok (by omega) (ff_none (fun j hj => absurd hj (Nat.not_lt_zero _)))]
    exact shF_0 (by have := hi.w2; show W + 0 ≤ 640; omega))
  clear hr hi
  go_enter Try.func62, Try.ntmps62
  go_wp2_with fail
  refine (checkShifts_any A B n c 0 d W H W q _ (by intro h; omega) (.inl rfl)).mono ?_
  rw [HC.out]
  rintro e w1 ⟨rfl, hbw1⟩
  obtain ⟨hcw1, hfw1⟩ := bcell hbw1
  have hzw1 := hbw1.size
  try simp at hzw1
  have kw1 : Below w.heap.size w w1 := Below.trans (by repeat (first | (with_reducible assumption) | (with_reducible exact Below.refl _ _) | (with_reducible refine Below.drew ?_) | (with_reducible refine below_drewN ?_ _) | ((with_reducible refine Below.alloc ?_ ?_ _); rotate_left; (focus (first | exact Nat.le_refl _ | omega | (simp; done) | (simp; omega) | (simp at *; omega)))) | ((with_reducible refine Below.setCell ?_ ?_ _); rotate_left; (focus (first | exact Nat.le_refl _ | omega | (simp; done) | (simp; omega) | (simp at *; omega)))))) (hbw1.mono (by (focus (first | exact Nat.le_refl _ | omega | (simp; done) | (simp; omega) | (simp at *; omega)))))
  have kzw1 := kw1.size
  have lw1w0 : w.heap.size < w1.heap.size := by omega
  have lw1w1 : w.heap.size + 1 < w1.heap.size := by omega
  have lw1w2 : w.heap.size + 2 < w1.heap.size := by omega
  go_wp2_with fail
  refine (copyOf_any A n c W H p hnb _ (HR.out _ (by repeat (first | (with_reducible assumption) | (with_reducible exact Below.refl _ _) | (with_reducible refine Below.drew ?_) | (with_reducible refine below_drewN ?_ _) | ((with_reducible refine Below.alloc ?_ ?_ _); rotate_left; (focus (first | exact Nat.le_refl _ | omega | (simp; done) | (simp; omega) | (simp at *; omega)))) | ((with_reducible refine Below.setCell ?_ ?_ _); rotate_left; (focus (first | exact Nat.le_refl _ | omega | (simp; done) | (simp; omega) | (simp at *; omega)))))))).mono ?_
  rintro e w2 ⟨rfl, hrow, hbw2⟩
  have Hrow := Lib.hid hrow
  clear hrow
  obtain ⟨hcw2, hfw2⟩ := bcell hbw2
  have hzw2 := hbw2.size
  try simp at hzw2
  have kw2 : Below w.heap.size w w2 := Below.trans (by repeat (first | (with_reducible assumption) | (with_reducible exact Below.refl _ _) | (with_reducible refine Below.drew ?_) | (with_reducible refine below_drewN ?_ _) | ((with_reducible refine Below.alloc ?_ ?_ _); rotate_left; (focus (first | exact Nat.le_refl _ | omega | (simp; done) | (simp; omega) | (simp at *; omega)))) | ((with_reducible refine Below.setCell ?_ ?_ _); rotate_left; (focus (first | exact Nat.le_refl _ | omega | (simp; done) | (simp; omega) | (simp at *; omega)))))) (hbw2.mono (by (focus (first | exact Nat.le_refl _ | omega | (simp; done) | (simp; omega) | (simp at *; omega)))))
  have kzw2 := kw2.size
  have lw2w10 : w1.heap.size < w2.heap.size := by omega
  have lw2w0 : w.heap.size < w2.heap.size := by omega
  have lw2w1 : w.heap.size + 1 < w2.heap.size := by omega
  have lw2w2 : w.heap.size + 2 < w2.heap.size := by omega
  go_wp2
  refine bodyPost_ret (v := (.tuple #[iv W H (some ⟨w1.heap.size + 1 + 2, 0, none⟩) n n, fv 0 0])) (by simp [results, Try.results62, go_sem, *]) rfl ?_
  refine ⟨_, rfl, by omega, ?_, (by repeat (first | (with_reducible assumption) | (with_reducible exact Below.refl _ _) | (with_reducible refine Below.drew ?_) | (with_reducible refine below_drewN ?_ _) | ((with_reducible refine Below.alloc ?_ ?_ _); rotate_left; (focus (first | exact Nat.le_refl _ | omega | (simp; done) | (simp; omega) | (simp at *; omega)))) | ((with_reducible refine Below.setCell ?_ ?_ _); rotate_left; (focus (first | exact Nat.le_refl _ | omega | (simp; done) | (simp; omega) | (simp at *; omega))))))⟩
  have := Hrow.out
  simp at this
  exact (by repeat (first | (with_reducible assumption) | (with_reducible refine World.rowIs.drew ?_) | (with_reducible refine rowIs_drewN ?_ _) | (with_reducible refine World.rowIs.alloc ?_ _) | ((with_reducible refine World.rowIs.setOther ?_ ?_ _); rotate_left; (focus (first | (simp; done) | (simp; omega) | omega)))))

set_option maxHeartbeats 4000000 in
set_option maxRecDepth 100000 in
theorem ShiftRows_do (A B : Option Addr) (n c m d N : Nat) (W H V : Int) (p q : Nat → Int) (w : World) (hi : ImgOk W H n) (hr : RdB w A n p) (hq : RdI w B m q) (hl : lsF q 0 24 m = (0, 0)) (hm0 : 0 < m) (hm : m ≤ 700) (hb : ∀ i, i < m → 0 ≤ q i ∧ q i ≤ 24) (hnc : n ≤ c) (hbig : W + moF q m ≤ 640)
    (hV : V = W + moF q m) (hN : (N : Int) = V * H) :
    Calls Try.prog 62 #[iv W H A n c, .slice B m d] w fun e w' => ∃ g, e = .returned (.tuple #[iv V H (some ⟨g, 0, none⟩) N N, fv 0 0]) ∧ w.heap.size ≤ g ∧ w'.rowIs g 5 N (fun k => .int .u8 (srF V W H p q m k)) ∧ Below w.heap.size w w' := by
  have HR := rd_later hr
  have HQ := rd_later hq
  have HI := Lib.hid hi
  have hnb : n ≤ 409600 := by have := mul_bd ⟨hi.w1, hi.w2⟩ ⟨hi.h1, hi.h2⟩; have := hi.len; omega
  have mb := moF_bd (p := q) (n := m) (b := 24) (by omega) (fun i hi => (hb i hi).2)
  have hW := hi.w1
  have hW2 := hi.w2
  have hH1 := hi.h1
  have hH2 := hi.h2
  have hNb : N ≤ 409600 := by have := mul_bd (W := V) (H := H) ⟨by omega, by omega⟩ ⟨hH1, hH2⟩; omega
  have HC : Hid (shF (imgF W H n) (lsF q 0 24 m) (W + moF q m) = (0, 0)) := Lib.hid (by rw [imgF_ok hi, hl]; exact shF_0 hbig)
  have HB := Lib.hid hb
  have HN := Lib.hid hN
  have HV := Lib.hid hV
  have m1 : ¬ (m : Int) = 0 := by omega
  have v1 : IntKind.i64.wrap (W + moF q m) = V := by rw [hV]; exact IntWalk.i64_in _ (by omega)
  clear hr hq hi hl hb hN hV
  go_enter Try.func62, Try.ntmps62
  go_wp2_with fail
  refine (checkShifts_any A B n c m d W H W q _ (HQ.out _ (by repeat (first | (with_reducible assumption) | (with_reducible exact Below.refl _ _) | (with_reducible refine Below.drew ?_) | (with_reducible refine below_drewN ?_ _) | ((with_reducible refine Below.alloc ?_ ?_ _); rotate_left; (focus (first | exact Nat.le_refl _ | omega | (simp; done) | (simp; omega) | (simp at *; omega)))) | ((with_reducible refine Below.setCell ?_ ?_ _); rotate_left; (focus (first | exact Nat.le_refl _ | omega | (simp; done) | (simp; omega) | (simp at *; omega))))))) (.inl rfl)).mono ?_
  rw [HC.out]
  rintro e w1 ⟨rfl, hbw1⟩
  have hzw1 := hbw1.size
  try simp at hzw1
  have kw1 : Below w.heap.size w w1 := Below.trans (by repeat (first | (with_reducible assumption) | (with_reducible exact Below.refl _ _) | (with_reducible refine Below.drew ?_) | (with_reducible refine below_drewN ?_ _) | ((with_reducible refine Below.alloc ?_ ?_ _); rotate_left; (focus (first | exact Nat.le_refl _ | omega | (simp; done) | (simp; omega) | (simp at *; omega)))) | ((with_reducible refine Below.setCell ?_ ?_ _); rotate_left; (focus (first | exact Nat.le_refl _ | omega | (simp; done) | (simp; omega) | (simp at *; omega)))))) (hbw1.mono (by (focus (first | exact Nat.le_refl _ | omega | (simp; done) | (simp; omega) | (simp at *; omega)))))
  have kzw1 := kw1.size
  have Bin : Blk w1 (w.heap.size) 26 #[.int .i64 W, .int .i64 H, .slice A n c] := Blk.below (by repeat (first | (with_reducible assumption) | (with_reducible exact Blk.new _ _ _) | ((with_reducible refine Blk.new_at _ _ _ ?_); (focus (first | (simp; done) | omega))) | (with_reducible refine Blk.drew ?_) | (with_reducible refine Blk.drewN ?_ _) | (with_reducible refine Blk.alloc ?_ _) | ((with_reducible refine Blk.far ?_ ?_ _); rotate_left; (focus (first | (simp; done) | (simp; omega) | omega))))) hbw1 (by (focus (first | omega | (simp; done) | (simp; omega) | (simp at *; omega))))
  try clear ci fi
  try clear Bi
  have Bi := Bin
  clear Bin
  have ci := Bi.cell
  have fi := Bi.frozen
  have liw1 := Bi.lt
  have Ban : Blk w1 (w.heap.size + 1) 26 #[.int .i64 0, .int .i64 0, .slice none 0 0] := Blk.below (by repeat (first | (with_reducible assumption) | (with_reducible exact Blk.new _ _ _) | ((with_reducible refine Blk.new_at _ _ _ ?_); (focus (first | (simp; done) | omega))) | (with_reducible refine Blk.drew ?_) | (with_reducible refine Blk.drewN ?_ _) | (with_reducible refine Blk.alloc ?_ _) | ((with_reducible refine Blk.far ?_ ?_ _); rotate_left; (focus (first | (simp; done) | (simp; omega) | omega))))) hbw1 (by (focus (first | omega | (simp; done) | (simp; omega) | (simp at *; omega))))
  try clear ca fa
  try clear Ba
  have Ba := Ban
  clear Ban
  have ca := Ba.cell
  have fa := Ba.frozen
  have law1 := Ba.lt
  have Bbn : Blk w1 (w.heap.size + 1 + 1) 28 #[.int .i64 0, .int .i64 0] := Blk.below (by repeat (first | (with_reducible assumption) | (with_reducible exact Blk.new _ _ _) | ((with_reducible refine Blk.new_at _ _ _ ?_); (focus (first | (simp; done) | omega))) | (with_reducible refine Blk.drew ?_) | (with_reducible refine Blk.drewN ?_ _) | (with_reducible refine Blk.alloc ?_ _) | ((with_reducible refine Blk.far ?_ ?_ _); rotate_left; (focus (first | (simp; done) | (simp; omega) | omega))))) hbw1 (by (focus (first | omega | (simp; done) | (simp; omega) | (simp at *; omega))))
  try clear cb fb
  try clear Bb
  have Bb := Bbn
  clear Bbn
  have cb := Bb.cell
  have fb := Bb.frozen
  have lbw1 := Bb.lt
  clear hbw1
  go_upto_region 6 with fail
  have CS : Hid (∀ X, Below w1.heap.size w1 X → X.cell? ⟨w.heap.size, 0, none⟩ = some (.int .i64 W) ∧ X.cell? ⟨w.heap.size, 1, none⟩ = some (.int .i64 H)) :=
    Lib.hid fun X h => ⟨(h.cell (p := ⟨w.heap.size, 0, none⟩) liw1).trans (ci 0), (h.cell (p := ⟨w.heap.size, 1, none⟩) liw1).trans (ci 1)⟩
  clear ci fi ca fa cb fb
  go_cut [7] (fun s7 wx => ∃ g b7 : Nat, s7 = .pointer (some ⟨b7, 0, none⟩) ∧ LI w g N (fun _ => .int .u8 255) [(w.heap.size, 26, #[.int .i64 W, .int .i64 H, .slice A n c]), (w.heap.size + 1, 26, #[.int .i64 0, .int .i64 0, .slice none 0 0]), (w.heap.size + 1 + 1, 28, #[.int .i64 0, .int .i64 0]),
      (b7, 26, #[.int .i64 V, .int .i64 H, .slice (some ⟨g, 0, none⟩) N N])] wx)
  case first =>
    go_region_held3 (fun X => X.cell? ⟨w.heap.size, 0, none⟩ = some (.int .i64 W) ∧ X.cell? ⟨w.heap.size, 1, none⟩ = some (.int .i64 H))
      (exact CS.out _ (by repeat (first | (with_reducible assumption) | (with_reducible exact Below.refl _ _) | (with_reducible refine Below.drew ?_) | (with_reducible refine below_drewN ?_ _) | ((with_reducible refine Below.alloc ?_ ?_ _); rotate_left; (focus (first | exact Nat.le_refl _ | omega | (simp; done) | (simp; omega) | (simp at *; omega)))) | ((with_reducible refine Below.setCell ?_ ?_ _); rotate_left; (focus (first | exact Nat.le_refl _ | omega | (simp; done) | (simp; omega) | (simp at *; omega)))))))
      (first
        | (go_at_call 123; refine (Max_ok B m d q _ (HQ.out _ (by repeat (first | (with_reducible assumption) | (with_reducible exact Below.refl _ _) | (with_reducible refine Below.drew ?_) | (with_reducible refine below_drewN ?_ _) | ((with_reducible refine Below.alloc ?_ ?_ _); rotate_left; (focus (first | exact Nat.le_refl _ | omega | (simp; done) | (simp; omega) | (simp at *; omega)))) | ((with_reducible refine Below.setCell ?_ ?_ _); rotate_left; (focus (first | exact Nat.le_refl _ | omega | (simp; done) | (simp; omega) | (simp at *; omega))))))) hm0 hm HB.out).mono ?_; rintro e w' ⟨rfl, rfl⟩)
        | (go_at_call 122; refine (blank_any V H N HN.out (by omega) _).mono ?_; rintro e w4 ⟨rfl, hrow4, hbw4⟩; have hr4 := Lib.hid hrow4; clear hrow4; obtain ⟨hc4, hf4⟩ := bcell hbw4; have hz4 := hbw4.size; (try simp at hz4); have k4 : Below w1.heap.size w1 w4 := Below.trans (by repeat (first | (with_reducible assumption) | (with_reducible exact Below.refl _ _) | (with_reducible refine Below.drew ?_) | (with_reducible refine below_drewN ?_ _) | ((with_reducible refine Below.alloc ?_ ?_ _); rotate_left; (focus (first | exact Nat.le_refl _ | omega | (simp; done) | (simp; omega) | (simp at *; omega)))) | ((with_reducible refine Below.setCell ?_ ?_ _); rotate_left; (focus (first | exact Nat.le_refl _ | omega | (simp; done) | (simp; omega) | (simp at *; omega)))))) (hbw4.mono (by (focus (first | exact Nat.le_refl _ | omega | (simp; done) | (simp; omega) | (simp at *; omega)))))))
    all_goals
      go_wp2_with fail
      go_meet
      have hrow4 := hr4.out
      simp at hrow4
      have hl4 := hrow4.lt
      have kk4 : Below w.heap.size w w4 := kw1.trans (k4.mono kzw1)
      first
        | refine ⟨w1.heap.size + 1 + 2, w4.heap.size, rfl, ?_, ?_, by omega, (by repeat (first | (with_reducible assumption) | (with_reducible exact Below.refl _ _) | (with_reducible refine Below.drew ?_) | (with_reducible refine below_drewN ?_ _) | ((with_reducible refine Below.alloc ?_ ?_ _); rotate_left; (focus (first | exact Nat.le_refl _ | omega | (simp; done) | (simp; omega) | (simp at *; omega)))) | ((with_reducible refine Below.setCell ?_ ?_ _); rotate_left; (focus (first | exact Nat.le_refl _ | omega | (simp; done) | (simp; omega) | (simp at *; omega))))))⟩
        | refine ⟨w1.heap.size + 1 + 1 + 2, w1.heap.size + 1, rfl, ?_, ?_, by omega, (by repeat (first | (with_reducible assumption) | (with_reducible exact Below.refl _ _) | (with_reducible refine Below.drew ?_) | (with_reducible refine below_drewN ?_ _) | ((with_reducible refine Below.alloc ?_ ?_ _); rotate_left; (focus (first | exact Nat.le_refl _ | omega | (simp; done) | (simp; omega) | (simp at *; omega)))) | ((with_reducible refine Below.setCell ?_ ?_ _); rotate_left; (focus (first | exact Nat.le_refl _ | omega | (simp; done) | (simp; omega) | (simp at *; omega))))))⟩
      · exact (by repeat (first | (with_reducible assumption) | (with_reducible refine World.rowIs.drew ?_) | (with_reducible refine rowIs_drewN ?_ _) | (with_reducible refine World.rowIs.alloc ?_ _) | ((with_reducible refine World.rowIs.setOther ?_ ?_ _); rotate_left; (focus (first | (simp; done) | (simp; omega) | omega)))))
      · intro x hx
        simp only [List.mem_cons, List.not_mem_nil, or_false] at hx
        rcases hx with rfl | rfl | rfl | rfl
        · exact ⟨(by first | exact (Bi.below k4 (by (focus (first | omega | (simp; done) | (simp; omega) | (simp at *; omega))))).alloc _ | exact (((Bi.below k4 (by (focus (first | omega | (simp; done) | (simp; omega) | (simp at *; omega))))).far (by (focus (first | (simp; done) | (simp; omega) | omega))) _).far (by (focus (first | (simp; done) | (simp; omega) | omega))) _).far (by (focus (first | (simp; done) | (simp; omega) | omega))) _), (by (focus (first | (simp; done) | (simp; omega) | omega)))⟩
        · exact ⟨(by first | exact (Ba.below k4 (by (focus (first | omega | (simp; done) | (simp; omega) | (simp at *; omega))))).alloc _ | exact (((Ba.below k4 (by (focus (first | omega | (simp; done) | (simp; omega) | (simp at *; omega))))).far (by (focus (first | (simp; done) | (simp; omega) | omega))) _).far (by (focus (first | (simp; done) | (simp; omega) | omega))) _).far (by (focus (first | (simp; done) | (simp; omega) | omega))) _), (by (focus (first | (simp; done) | (simp; omega) | omega)))⟩
        · exact ⟨(by first | exact (Bb.below k4 (by (focus (first | omega | (simp; done) | (simp; omega) | (simp at *; omega))))).alloc _ | exact (((Bb.below k4 (by (focus (first | omega | (simp; done) | (simp; omega) | (simp at *; omega))))).far (by (focus (first | (simp; done) | (simp; omega) | omega))) _).far (by (focus (first | (simp; done) | (simp; omega) | omega))) _).far (by (focus (first | (simp; done) | (simp; omega) | omega))) _), (by (focus (first | (simp; done) | (simp; omega) | omega)))⟩
        · exact ⟨(by
            first
              | exact Blk.new _ _ _
              | (have B7 : Blk w4 (w1.heap.size + 1) 26 #[.int .i64 0, .int .i64 0, .slice none 0 0] := Blk.below (by repeat (first | (with_reducible assumption) | (with_reducible exact Blk.new _ _ _) | ((with_reducible refine Blk.new_at _ _ _ ?_); (focus (first | (simp; done) | omega))) | (with_reducible refine Blk.drew ?_) | (with_reducible refine Blk.drewN ?_ _) | (with_reducible refine Blk.alloc ?_ _) | ((with_reducible refine Blk.far ?_ ?_ _); rotate_left; (focus (first | (simp; done) | (simp; omega) | omega))))) hbw4 (by (focus (first | omega | (simp; done) | (simp; omega) | (simp at *; omega))))
                 exact ((B7.set_ 0 _).set_ 1 _).set_ 2 _)), (by (focus (first | (simp; done) | (simp; omega) | omega)))⟩
  case rest =>
    obtain ⟨g, b7, rfl, hI0⟩ := hcut
    have H0 := hI0.congr (G := srK V W H p q m 0) (fun i _ => (srK_0 (by have := HV.out; omega)).symm)
    have Bi0 := hI0.b (b := w.heap.size) (t := 26) (cs := #[.int .i64 W, .int .i64 H, .slice A n c]) (by simp)
    have ci := Bi0.cell
    clear hI0 Bi Ba Bb CS Bi0
    obtain ⟨hh, hhh⟩ : ∃ hh : Nat, (hh : Int) = H := ⟨H.toNat, by omega⟩
    have HH := Lib.hid hhh
    have hV1 : 1 ≤ V ∧ V ≤ 640 := by have := HV.out; omega
    have HO := Lib.hid (show ImgOk V H N from ⟨hV1.1, hV1.2, hH1, hH2, HN.out⟩)
    obtain ⟨u, hu⟩ : ∃ u : Nat, (u : Int) = W := ⟨W.toNat, by omega⟩
    have HU := Lib.hid hu
    clear hhh hu
    go_wp2
    clear ci
    go_loopg [35] hh (fun gk s wr => ∃ k : Nat, k ≤ hh ∧ gk = hh - k ∧ s = .int .i64 k ∧ LI w g N (srK V W H p q m k) [(w.heap.size, 26, #[.int .i64 W, .int .i64 H, .slice A n c]), (w.heap.size + 1, 26, #[.int .i64 0, .int .i64 0, .slice none 0 0]), (w.heap.size + 1 + 1, 28, #[.int .i64 0, .int .i64 0]),
      (b7, 26, #[.int .i64 V, .int .i64 H, .slice (some ⟨g, 0, none⟩) N N])] wr)
    case atStart => exact ⟨0, by omega, rfl, rfl, H0⟩
    case round =>
      obtain ⟨k, hk, rfl, rfl, hI⟩ := hrel
      clear H0
      have HS := Lib.hid hI
      have Bo := hI.b (b := b7) (t := 26) (cs := #[.int .i64 V, .int .i64 H, .slice (some ⟨g, 0, none⟩) N N]) (by simp)
      have co := Bo.cell
      by_cases hlt : k < hh
      · have hkH : (k : Int) < H := by have := HH.out; omega
        have Bi := hI.b (b := w.heap.size) (t := 26) (cs := #[.int .i64 W, .int .i64 H, .slice A n c]) (by simp)
        have ci := Bi.cell
        have ni := (hI.blk (w.heap.size, 26, #[.int .i64 W, .int .i64 H, .slice A n c]) (by simp)).2
        have no := (hI.blk (b7, 26, #[.int .i64 V, .int .i64 H, .slice (some ⟨g, 0, none⟩) N N]) (by simp)).2
        have li := Bi.lt
        have lo := Bo.lt
        obtain ⟨j, hj⟩ : ∃ j : Nat, (j : Int) = (k : Int) % m := ⟨((k : Int) % m).toNat, by have := Int.emod_nonneg (k : Int) m1; omega⟩
        have hjm : j < m := by have := Int.emod_lt_of_pos (k : Int) (show (0 : Int) < m by omega); omega
        have he : elF q m k = q j := by unfold elF; rw [if_neg (by omega), ← hj]; rfl
        have hqj := HB.out j hjm
        have hqm := moF_le (p := q) hjm
        have hV := HV.out
        obtain ⟨i1, i2, i3, i4⟩ := idx_bd (W := V) (H := H) (x := q j) (y := k) ⟨hV1.1, hV1.2⟩ ⟨hH1, hH2⟩ ⟨by omega, by omega⟩ ⟨by omega, hkH⟩
        obtain ⟨o, ho⟩ : ∃ o : Nat, (o : Int) = (k : Int) * V + q j := ⟨((k : Int) * V + q j).toNat, by omega⟩
        have hNN := HN.out
        have hoN : o < N := by omega
        obtain ⟨z1, z2, z3, z4⟩ := idx_bd (W := W) (H := H) (x := 0) (y := k) ⟨hW, hW2⟩ ⟨hH1, hH2⟩ ⟨by omega, by omega⟩ ⟨by omega, hkH⟩
        obtain ⟨a, ha⟩ : ∃ a : Nat, (a : Int) = (k : Int) * W := ⟨((k : Int) * W).toNat, by omega⟩
        have hu := HU.out
        have hb1 : ((a + u : Nat) : Int) = ((k : Int) + 1) * W := by rw [Int.add_mul, ← ha, Int.one_mul]; omega
        have hlen := HI.out.len
        have hbn : a + u ≤ n := by
          have h1 : ((k : Int) + 1) * W ≤ H * W := Int.mul_le_mul_of_nonneg_right (by omega) (by omega)
          rw [Int.mul_comm H W] at h1
          omega
        have hfit : o + u ≤ N := by
          have h1 : ((k : Int) + 1) * V ≤ H * V := Int.mul_le_mul_of_nonneg_right (by omega) (by omega)
          rw [Int.mul_comm H V, Int.add_mul] at h1
          omega
        have ST := Lib.hid (fun jj => srK_step (p := p) (j := jj) (u := u) (W := W) (H := H) (q := q) (m := m) (off := o) (a := a) hV1.1 hu (by rw [he]; exact ho) ha hkH (by rw [he]; omega))
        obtain ⟨b, hbd⟩ : ∃ b : Nat, b = a + u := ⟨_, rfl⟩
        have hb' : (b : Int) = ((k : Int) + 1) * W := by rw [hbd]; exact hb1
        obtain ⟨bp, op, rfl, hcl⟩ := HR.out _ hI.bel (by omega)
        have hr1 : Rd wr.drew (some ⟨bp, op + a, none⟩) (b - a) (fun i => .int .u8 (p (a + i))) := fun _ => ⟨bp, op + a, rfl, fun i hi => by rw [Nat.add_assoc]; exact hcl (a + i) (by omega)⟩
        obtain ⟨w5, hcp, hrow5, hon⟩ := copy_row (off := o) (dLen := N - o) (dCap := N - o) (c := c - a) (dT := 22) (sT := 22) (elem := 5) (ty := 3) Try.underlying22 Try.size5 hI.row.drew hr1 (m := u) (by omega) hfit (fun _ _ => rfl)
        have HS5 : Hid (LI w g N (srK V W H p q m (k + 1)) [(w.heap.size, 26, #[.int .i64 W, .int .i64 H, .slice (some ⟨bp, op, none⟩) n c]), (w.heap.size + 1, 26, #[.int .i64 0, .int .i64 0, .slice none 0 0]), (w.heap.size + 1 + 1, 28, #[.int .i64 0, .int .i64 0]),
            (b7, 26, #[.int .i64 V, .int .i64 H, .slice (some ⟨g, 0, none⟩) N N])] w5) := Lib.hid (((hI.mono (w4 := wr.drew) (by repeat (first | (with_reducible assumption) | (with_reducible exact Below.refl _ _) | (with_reducible refine Below.drew ?_) | (with_reducible refine below_drewN ?_ _) | ((with_reducible refine Below.alloc ?_ ?_ _); rotate_left; (focus (first | exact Nat.le_refl _ | omega | (simp; done) | (simp; omega) | (simp at *; omega)))) | ((with_reducible refine Below.setCell ?_ ?_ _); rotate_left; (focus (first | exact Nat.le_refl _ | omega | (simp; done) | (simp; omega) | (simp at *; omega))))))).only hon hrow5).congr fun jj _ => ST.out jj)
        obtain ⟨bq, oq, rfl, hcq⟩ := HQ.out _ hI.bel (by omega)
        have hcj := hcq j hjm
        have hcj5 : w5.cell? ⟨bq, oq + j, none⟩ = some (.int .i64 (q j)) := by
          obtain ⟨b', o', e', hc'⟩ := HQ.out _ HS5.out.bel (by omega)
          simp only [Option.some.injEq, Addr.mk.injEq] at e'
          obtain ⟨rfl, rfl, _⟩ := e'
          exact hc' j hjm
        have CS : Hid (∀ X, X = wr.drew ∨ X = w5 → X.cell? ⟨w.heap.size, 0, none⟩ = some (.int .i64 W) ∧ X.cell? ⟨w.heap.size, 2, none⟩ = some (.slice (some ⟨bp, op, none⟩) n c) ∧ X.cell? ⟨b7, 0, none⟩ = some (.int .i64 V) ∧ X.cell? ⟨b7, 2, none⟩ = some (.slice (some ⟨g, 0, none⟩) N N) ∧ X.cell? ⟨bq, oq + j, none⟩ = some (.int .i64 (q j))) :=
          Lib.hid fun X h => by
            rcases h with rfl | rfl
            · exact ⟨Bi.cell 0, Bi.cell 2, Bo.cell 0, Bo.cell 2, hcj⟩
            · exact ⟨(HS5.out.b (b := w.heap.size) (t := 26) (cs := #[.int .i64 W, .int .i64 H, .slice (some ⟨bp, op, none⟩) n c]) (by simp)).cell 0, (HS5.out.b (b := w.heap.size) (t := 26) (cs := #[.int .i64 W, .int .i64 H, .slice (some ⟨bp, op, none⟩) n c]) (by simp)).cell 2,
                (HS5.out.b (b := b7) (t := 26) (cs := #[.int .i64 V, .int .i64 H, .slice (some ⟨g, 0, none⟩) N N]) (by simp)).cell 0, (HS5.out.b (b := b7) (t := 26) (cs := #[.int .i64 V, .int .i64 H, .slice (some ⟨g, 0, none⟩) N N]) (by simp)).cell 2, hcj5⟩
        have u1 : IntKind.i64.wrap ((k : Int) * V) = (k : Int) * V := IntWalk.i64_in _ (by omega)
        have u2 : (k : Int).tmod m = (j : Int) := by rw [hj]; exact Int.tmod_eq_emod_of_nonneg (by omega)
        have u3 : IntKind.i64.wrap (j : Int) = (j : Int) := IntWalk.i64_in _ (by omega)
        have u4 : IntKind.i64.wrap ((k : Int) * V + q j) = (o : Int) := by rw [← ho]; exact IntWalk.i64_in _ (by omega)
        have u5 : IntKind.i64.wrap ((k : Int) * W) = (a : Int) := by rw [← ha]; exact IntWalk.i64_in _ (by omega)
        have u6 : IntKind.i64.wrap ((k : Int) + 1) = (k : Int) + 1 := IntWalk.i64_in _ (by omega)
        have u7 : IntKind.i64.wrap (((k : Int) + 1) * W) = (b : Int) := by rw [← hb']; exact IntWalk.i64_in _ (by omega)
        have m0 : ¬ m = 0 := by omega
        have j1 : (0 : Int) ≤ (j : Int) := by omega
        have j2 : (j : Int) < (m : Int) := by omega
        have o1 : (0 : Int) ≤ (o : Int) := by omega
        have o2 : (o : Int) ≤ (N : Int) := by omega
        have o3 : (o : Int) < (N : Int) := by omega
        have o4 : ¬ N = o := by omega
        have o5 : ¬ N - o = 0 := by omega
        have q1 : (0 : Int) ≤ (a : Int) := by omega
        have q2 : (a : Int) ≤ (b : Int) := by omega
        have q3 : (b : Int) ≤ (n : Int) := by omega
        have q8 : (b : Int) ≤ (c : Int) := by omega
        have q9 : (a : Int) ≤ (c : Int) := by omega
        have qa : a < c := by omega
        have qb : ¬ c = a := by omega
        have qc : ¬ c - a = 0 := by omega
        have q4 : (a : Int) < (n : Int) := by omega
        have q5 : a < n := by omega
        have q6 : ¬ n = a := by omega
        have q7 : ¬ n - a = 0 := by omega
        have HK := Lib.hid (show k + 1 ≤ hh from hlt)
        clear hI Bi Bo hj he ho ha hb1 hb' hbd hbn hfit hNN hlen hu hcl hcq hr1 hrow5 hon i1 i2 i3 i4 z1 z2 z3 z4 hV hoN hqm ni no
        go_wp2_with fail
        go_region_held3 (fun X => X.cell? ⟨w.heap.size, 0, none⟩ = some (.int .i64 W) ∧ X.cell? ⟨w.heap.size, 2, none⟩ = some (.slice (some ⟨bp, op, none⟩) n c) ∧ X.cell? ⟨b7, 0, none⟩ = some (.int .i64 V) ∧ X.cell? ⟨b7, 2, none⟩ = some (.slice (some ⟨g, 0, none⟩) N N) ∧ X.cell? ⟨bq, oq + j, none⟩ = some (.int .i64 (q j)))
          (first | exact CS.out _ (.inl rfl) | exact CS.out _ (.inr rfl))
          (fail)
        go_wp2
        go_roundg (hh - (k + 1))
        case measure => have := HK.out; omega
        case rel => exact ⟨k + 1, HK.out, rfl, by go_num, HS5.out⟩
      · obtain rfl : k = hh := by omega
        have Ba := hI.b (b := w.heap.size + 1) (t := 26) (cs := #[.int .i64 0, .int .i64 0, .slice none 0 0]) (by simp)
        have Bb := hI.b (b := w.heap.size + 1 + 1) (t := 28) (cs := #[.int .i64 0, .int .i64 0]) (by simp)
        have n1 := (hI.blk (w.heap.size + 1, 26, #[.int .i64 0, .int .i64 0, .slice none 0 0]) (by simp)).2
        have n2 := (hI.blk (w.heap.size + 1 + 1, 28, #[.int .i64 0, .int .i64 0]) (by simp)).2
        have hkH : ¬ (k : Int) < H := by have := HH.out; omega
        have ca := Ba.cell
        have fa := Ba.frozen
        have cb := Bb.cell
        have fb := Bb.frozen
        have Hrow := Lib.hid (hI.row.congr (srK_all HO.out HH.out))
        have hbel := hI.bel
        have hlow := hI.low
        clear hI Bo
        go_wp2
        refine bodyPost_ret (v := (.tuple #[iv V H (some ⟨g, 0, none⟩) N N, fv 0 0])) (by simp [results, Try.results62, go_sem, *]) rfl ?_
        refine ⟨_, rfl, hlow, ?_, (by repeat (first | (with_reducible assumption) | (with_reducible exact Below.refl _ _) | (with_reducible refine Below.drew ?_) | (with_reducible refine below_drewN ?_ _) | ((with_reducible refine Below.alloc ?_ ?_ _); rotate_left; (focus (first | exact Nat.le_refl _ | omega | (simp; done) | (simp; omega) | (simp at *; omega)))) | ((with_reducible refine Below.setCell ?_ ?_ _); rotate_left; (focus (first | exact Nat.le_refl _ | omega | (simp; done) | (simp; omega) | (simp at *; omega))))))⟩
        have := Hrow.out
        exact (by repeat (first | (with_reducible assumption) | (with_reducible refine World.rowIs.drew ?_) | (with_reducible refine rowIs_drewN ?_ _) | (with_reducible refine World.rowIs.alloc ?_ _) | ((with_reducible refine World.rowIs.setOther ?_ ?_ _); rotate_left; (focus (first | (simp; done) | (simp; omega) | omega)))))

end Go.Proofs.Ytpdjiokmafoppaa
