/- distort.ShiftColumns where it shifts. Conditions: the pixels and the numbers read. -/
import Derived.Test.YtpdjiokmafoppaaShiftC
namespace Go.Proofs.Ytpdjiokmafoppaa
open Go.RowKit

set_option maxHeartbeats 4000000 in
set_option maxRecDepth 100000 in
theorem ShiftColumns_do (A B : Option Addr) (n c m d N : Nat) (W H V : Int) (p q : Nat → Int) (w : World) (hi : ImgOk W H n) (hr : RdB w A n p) (hq : RdI w B m q) (hl : lsF q 0 24 m = (0, 0)) (hm0 : 0 < m) (hm : m ≤ 700) (hb : ∀ i, i < m → 0 ≤ q i ∧ q i ≤ 24) (hbig : H + moF q m ≤ 640)
    (hV : V = H + moF q m) (hN : (N : Int) = W * V) :
    Calls Try.prog 63 #[iv W H A n c, .slice B m d] w fun e w' => ∃ g, e = .returned (.tuple #[iv W V (some ⟨g, 0, none⟩) N N, fv 0 0]) ∧ w.heap.size ≤ g ∧ w'.rowIs g 5 N (fun k => .int .u8 (scF W H p q m k)) ∧ Below w.heap.size w w' := by
  have HR := rd_later hr
  have HQ := rd_later hq
  have HI := Lib.hid hi
  have hnb : n ≤ 409600 := by have := mul_bd ⟨hi.w1, hi.w2⟩ ⟨hi.h1, hi.h2⟩; have := hi.len; omega
  have mb := moF_bd (p := q) (n := m) (b := 24) (by omega) (fun i hi => (hb i hi).2)
  have hW := hi.w1
  have hW2 := hi.w2
  have hH1 := hi.h1
  have hH2 := hi.h2
  have hNb : N ≤ 409600 := by have := mul_bd (W := W) (H := V) ⟨hW, hW2⟩ ⟨by omega, by omega⟩; omega
  have HC : Hid (shF (imgF W H n) (lsF q 0 24 m) (H + moF q m) = (0, 0)) := Lib.hid (by rw [imgF_ok hi, hl]; exact shF_0 hbig)
  have HB := Lib.hid hb
  have HN := Lib.hid hN
  have HV := Lib.hid hV
  have m1 : ¬ (m : Int) = 0 := by omega
  have v1 : IntKind.i64.wrap (H + moF q m) = V := by rw [hV]; exact IntWalk.i64_in _ (by omega)
  clear hr hq hi hl hb hN hV
  go_enter Try.func63, Try.ntmps63
  go_wp2_with fail
  refine (checkShifts_any A B n c m d W H H q _ (HQ.out _ (by repeat (first | (with_reducible assumption) | (with_reducible exact Below.refl _ _) | (with_reducible refine Below.drew ?_) | (with_reducible refine below_drewN ?_ _) | ((with_reducible refine Below.alloc ?_ ?_ _); rotate_left; (focus (first | exact Nat.le_refl _ | omega | (simp; done) | (simp; omega) | (simp at *; omega)))) | ((with_reducible refine Below.setCell ?_ ?_ _); rotate_left; (focus (first | exact Nat.le_refl _ | omega | (simp; done) | (simp; omega) | (simp at *; omega))))))) (.inr rfl)).mono ?_
  rw [HC.out]
  rintro e w1 ⟨rfl, hbw1⟩
  have hzw1 := hbw1.size
  try simp at hzw1
  have kw1 : Below w.heap.size w w1 := Below.trans (by repeat (first | (with_reducible assumption) | (with_reducible exact Below.refl _ _) | (with_reducible refine Below.drew ?_) | (with_reducible refine below_drewN ?_ _) | ((with_reducible refine Below.alloc ?_ ?_ _); rotate_left; (focus (first | exact Nat.le_refl _ | omega | (simp; done) | (simp; omega) | (simp at *; omega)))) | ((with_reducible refine Below.setCell ?_ ?_ _); rotate_left; (focus (first | exact Nat.le_refl _ | omega | (simp; done) | (simp; omega) | (simp at *; omega)))))) (hbw1.mono (by (focus (first | exact Nat.le_refl _ | omega | (simp; done) | (simp; omega) | (simp at *; omega)))))
  have kzw1 := kw1.size
  have Bin : Blk w1 (w.heap.size) 26 #[.int .i64 W, .int .i64 H, .slice A n c] := Blk.below (by repeat (first | (with_reducible assumption) | (with_reducible exact Blk.new _ _ _) | ((with_reducible refine Blk.new_at _ _ _ ?_); (focus (first | (simp; done) | omega))) | (with_reducible refine Blk.drew ?_) | (with_reducible refine Blk.drewN ?_ _) | (with_reducible refine Blk.alloc ?_ _) | ((with_reducible refine Blk.far ?_ ?_ _); rotate_left; (focus (first | (simp; done) | (simp; omega) | omega))))) hbw1 (by (focus (first | omega | (simp; done) | (simp; omega) | (simp at *; omega))))
  try clear ci fi
  try clear Bi
  have Bi := Bin
  clear Bin
  have ci := Bi.cell
  have fi := Bi.frozen
  have liw1 := Bi.lt
  have Ban : Blk w1 (w.heap.size + 1) 26 #[.int .i64 0, .int .i64 0, .slice none 0 0] := Blk.below (by repeat (first | (with_reducible assumption) | (with_reducible exact Blk.new _ _ _) | ((with_reducible refine Blk.new_at _ _ _ ?_); (focus (first | (simp; done) | omega))) | (with_reducible refine Blk.drew ?_) | (with_reducible refine Blk.drewN ?_ _) | (with_reducible refine Blk.alloc ?_ _) | ((with_reducible refine Blk.far ?_ ?_ _); rotate_left; (focus (first | (simp; done) | (simp; omega) | omega))))) hbw1 (by (focus (first | omega | (simp; done) | (simp; omega) | (simp at *; omega))))
  try clear ca fa
  try clear Ba
  have Ba := Ban
  clear Ban
  have ca := Ba.cell
  have fa := Ba.frozen
  have law1 := Ba.lt
  have Bbn : Blk w1 (w.heap.size + 1 + 1) 28 #[.int .i64 0, .int .i64 0] := Blk.below (by repeat (first | (with_reducible assumption) | (with_reducible exact Blk.new _ _ _) | ((with_reducible refine Blk.new_at _ _ _ ?_); (focus (first | (simp; done) | omega))) | (with_reducible refine Blk.drew ?_) | (with_reducible refine Blk.drewN ?_ _) | (with_reducible refine Blk.alloc ?_ _) | ((with_reducible refine Blk.far ?_ ?_ _); rotate_left; (focus (first | (simp; done) | (simp; omega) | omega))))) hbw1 (by (focus (first | omega | (simp; done) | (simp; omega) | (simp at *; omega))))
  try clear cb fb
  try clear Bb
  have Bb := Bbn
  clear Bbn
  have cb := Bb.cell
  have fb := Bb.frozen
  have lbw1 := Bb.lt
  clear hbw1
  go_upto_region 6 with fail
  have CS : Hid (∀ X, Below w1.heap.size w1 X → X.cell? ⟨w.heap.size, 0, none⟩ = some (.int .i64 W) ∧ X.cell? ⟨w.heap.size, 1, none⟩ = some (.int .i64 H)) :=
    Lib.hid fun X h => ⟨(h.cell (p := ⟨w.heap.size, 0, none⟩) liw1).trans (ci 0), (h.cell (p := ⟨w.heap.size, 1, none⟩) liw1).trans (ci 1)⟩
  clear ci fi ca fa cb fb
  go_cut [7] (fun s7 wx => ∃ g b7 : Nat, s7 = .pointer (some ⟨b7, 0, none⟩) ∧ LI w g N (fun _ => .int .u8 255) [(w.heap.size, 26, #[.int .i64 W, .int .i64 H, .slice A n c]), (w.heap.size + 1, 26, #[.int .i64 0, .int .i64 0, .slice none 0 0]), (w.heap.size + 1 + 1, 28, #[.int .i64 0, .int .i64 0]),
      (b7, 26, #[.int .i64 W, .int .i64 V, .slice (some ⟨g, 0, none⟩) N N])] wx)
  case first =>
    go_region_held3 (fun X => X.cell? ⟨w.heap.size, 0, none⟩ = some (.int .i64 W) ∧ X.cell? ⟨w.heap.size, 1, none⟩ = some (.int .i64 H))
      (exact CS.out _ (by repeat (first | (with_reducible assumption) | (with_reducible exact Below.refl _ _) | (with_reducible refine Below.drew ?_) | (with_reducible refine below_drewN ?_ _) | ((with_reducible refine Below.alloc ?_ ?_ _); rotate_left; (focus (first | exact Nat.le_refl _ | omega | (simp; done) | (simp; omega) | (simp at *; omega)))) | ((with_reducible refine Below.setCell ?_ ?_ _); rotate_left; (focus (first | exact Nat.le_refl _ | omega | (simp; done) | (simp; omega) | (simp at *; omega)))))))
      (first
        | (go_at_call 123; refine (Max_ok B m d q _ (HQ.out _ (by repeat (first | (with_reducible assumption) | (with_reducible exact Below.refl _ _) | (with_reducible refine Below.drew ?_) | (with_reducible refine below_drewN ?_ _) | ((with_reducible refine Below.alloc ?_ ?_ _); rotate_left; (focus (first | exact Nat.le_refl _ | omega | (simp; done) | (simp; omega) | (simp at *; omega)))) | ((with_reducible refine Below.setCell ?_ ?_ _); rotate_left; (focus (first | exact Nat.le_refl _ | omega | (simp; done) | (simp; omega) | (simp at *; omega))))))) hm0 hm HB.out).mono ?_; rintro e w' ⟨rfl, rfl⟩)
        | (go_at_call 122; refine (blank_any W V N HN.out (by omega) _).mono ?_; rintro e w4 ⟨rfl, hrow4, hbw4⟩; have hr4 := Lib.hid hrow4; clear hrow4; obtain ⟨hc4, hf4⟩ := bcell hbw4; have hz4 := hbw4.size; (try simp at hz4); have k4 : Below w1.heap.size w1 w4 := Below.trans (by repeat (first | (with_reducible assumption) | (with_reducible exact Below.refl _ _) | (with_reducible refine Below.drew ?_) | (with_reducible refine below_drewN ?_ _) | ((with_reducible refine Below.alloc ?_ ?_ _); rotate_left; (focus (first | exact Nat.le_refl _ | omega | (simp; done) | (simp; omega) | (simp at *; omega)))) | ((with_reducible refine Below.setCell ?_ ?_ _); rotate_left; (focus (first | exact Nat.le_refl _ | omega | (simp; done) | (simp; omega) | (simp at *; omega)))))) (hbw4.mono (by (focus (first | exact Nat.le_refl _ | omega | (simp; done) | (simp; omega) | (simp at *; omega)))))))
    all_goals
      go_wp2_with fail
      go_meet
      have hrow4 := hr4.out
      simp at hrow4
      have hl4 := hrow4.lt
      have kk4 : Below w.heap.size w w4 := kw1.trans (k4.mono kzw1)
      first
        | refine ⟨w1.heap.size + 1 + 2, w4.heap.size, rfl, ?_, ?_, by omega, (by repeat (first | (with_reducible assumption) | (with_reducible exact Below.refl _ _) | (with_reducible refine Below.drew ?_) | (with_reducible refine below_drewN ?_ _) | ((with_reducible refine Below.alloc ?_ ?_ _); rotate_left; (focus (first | exact Nat.le_refl _ | omega | (simp; done) | (simp; omega) | (simp at *; omega)))) | ((with_reducible refine Below.setCell ?_ ?_ _); rotate_left; (focus (first | exact Nat.le_refl _ | omega | (simp; done) | (simp; omega) | (simp at *; omega))))))⟩
        | refine ⟨w1.heap.size + 1 + 1 + 2, w1.heap.size + 1, rfl, ?_, ?_, by omega, (by repeat (first | (with_reducible assumption) | (with_reducible exact Below.refl _ _) | (with_reducible refine Below.drew ?_) | (with_reducible refine below_drewN ?_ _) | ((with_reducible refine Below.alloc ?_ ?_ _); rotate_left; (focus (first | exact Nat.le_refl _ | omega | (simp; done) | (simp; omega) | (simp at *; omega)))) | ((with_reducible refine Below.setCell ?_ ?_ _); rotate_left; (focus (first | exact Nat.le_refl _ | omega | (simp; done) | (simp; omega) | (simp at *; omega))))))⟩
      · exact (by repeat (first | (with_reducible assumption) | (with_reducible refine World.rowIs.drew ?_) | (with_reducible refine rowIs_drewN ?_ _) | (with_reducible refine World.rowIs.alloc ?_ _) | ((with_reducible refine World.rowIs.setOther ?_ ?_ _); rotate_left; (focus (first | (simp; done) | (simp; omega) | omega)))))
      · intro x hx
        simp only [List.mem_cons, List.not_mem_nil, or_false] at hx
        rcases hx with rfl | rfl | rfl | rfl
        · exact ⟨(by first | exact (Bi.below k4 (by (focus (first | omega | (simp; done) | (simp; omega) | (simp at *; omega))))).alloc _ | exact (((Bi.below k4 (by (focus (first | omega | (simp; done) | (simp; omega) | (simp at *; omega))))).far (by (focus (first | (simp; done) | (simp; omega) | omega))) _).far (by (focus (first | (simp; done) | (simp; omega) | omega))) _).far (by (focus (first | (simp; done) | (simp; omega) | omega))) _), (by (focus (first | (simp; done) | (simp; omega) | omega)))⟩
        · exact ⟨(by first | exact (Ba.below k4 (by (focus (first | omega | (simp; done) | (simp; omega) | (simp at *; omega))))).alloc _ | exact (((Ba.below k4 (by (focus (first | omega | (simp; done) | (simp; omega) | (simp at *; omega))))).far (by (focus (first | (simp; done) | (simp; omega) | omega))) _).far (by (focus (first | (simp; done) | (simp; omega) | omega))) _).far (by (focus (first | (simp; done) | (simp; omega) | omega))) _), (by (focus (first | (simp; done) | (simp; omega) | omega)))⟩
        · exact ⟨(by first | exact (Bb.below k4 (by (focus (first | omega | (simp; done) | (simp; omega) | (simp at *; omega))))).alloc _ | exact (((Bb.below k4 (by (focus (first | omega | (simp; done) | (simp; omega) | (simp at *; omega))))).far (by (focus (first | (simp; done) | (simp; omega) | omega))) _).far (by (focus (first | (simp; done) | (simp; omega) | omega))) _).far (by (focus (first | (simp; done) | (simp; omega) | omega))) _), (by (focus (first | (simp; done) | (simp; omega) | omega)))⟩
        · exact ⟨(by
            first
              | exact Blk.new _ _ _
              | (have B7 : Blk w4 (w1.heap.size + 1) 26 #[.int .i64 0, .int .i64 0, .slice none 0 0] := Blk.below (by repeat (first | (with_reducible assumption) | (with_reducible exact Blk.new _ _ _) | ((with_reducible refine Blk.new_at _ _ _ ?_); (focus (first | (simp; done) | omega))) | (with_reducible refine Blk.drew ?_) | (with_reducible refine Blk.drewN ?_ _) | (with_reducible refine Blk.alloc ?_ _) | ((with_reducible refine Blk.far ?_ ?_ _); rotate_left; (focus (first | (simp; done) | (simp; omega) | omega))))) hbw4 (by (focus (first | omega | (simp; done) | (simp; omega) | (simp at *; omega))))
                 exact ((B7.set_ 0 _).set_ 1 _).set_ 2 _)), (by (focus (first | (simp; done) | (simp; omega) | omega)))⟩
  case rest =>
    obtain ⟨g, b7, rfl, hI0⟩ := hcut
    have H0 := hI0.congr (G := scK W H p q m 0) (fun i _ => (scK_0 hW).symm)
    have Bi0 := hI0.b (b := w.heap.size) (t := 26) (cs := #[.int .i64 W, .int .i64 H, .slice A n c]) (by simp)
    have ci := Bi0.cell
    clear hI0 Bi Ba Bb CS Bi0
    go_wp2
    clear ci
    go_loopg [39] n (fun gk s wr => ∃ k : Nat, k ≤ n ∧ gk = n - k ∧ s = .int .i64 k ∧ LI w g N (scK W H p q m k) [(w.heap.size, 26, #[.int .i64 W, .int .i64 H, .slice A n c]), (w.heap.size + 1, 26, #[.int .i64 0, .int .i64 0, .slice none 0 0]), (w.heap.size + 1 + 1, 28, #[.int .i64 0, .int .i64 0]),
      (b7, 26, #[.int .i64 W, .int .i64 V, .slice (some ⟨g, 0, none⟩) N N])] wr)
    case atStart => exact ⟨0, by omega, rfl, rfl, H0⟩
    case round =>
      obtain ⟨k, hk, rfl, rfl, hI⟩ := hrel
      clear H0
      have HS := Lib.hid hI
      have Bo := hI.b (b := b7) (t := 26) (cs := #[.int .i64 W, .int .i64 V, .slice (some ⟨g, 0, none⟩) N N]) (by simp)
      have co := Bo.cell
      clear Bo
      by_cases hlt : k < n
      · have Bi := hI.b (b := w.heap.size) (t := 26) (cs := #[.int .i64 W, .int .i64 H, .slice A n c]) (by simp)
        have ci := Bi.cell
        obtain ⟨⟨x1, x2⟩, ⟨y1, y2⟩, _, kb, _⟩ := pix_bd HI.out hlt
        obtain ⟨X, hX⟩ : ∃ X, X = (k : Int) % W := ⟨_, rfl⟩
        obtain ⟨Y, hY⟩ : ∃ Y, Y = (k : Int) / W := ⟨_, rfl⟩
        obtain ⟨j, hj⟩ : ∃ j : Nat, (j : Int) = X % m := ⟨(X % m).toNat, by have := Int.emod_nonneg X m1; omega⟩
        have hjm : j < m := by have := Int.emod_lt_of_pos X (show (0 : Int) < m by omega); omega
        have he : elF q m X = q j := by unfold elF; rw [if_neg (by omega), ← hj]; rfl
        have hqj := HB.out j hjm
        have hqm := moF_le (p := q) hjm
        have hV := HV.out
        obtain ⟨i1, i2, i3, i4⟩ := idx_bd (W := W) (H := V) (x := X) (y := Y + q j) ⟨hW, hW2⟩ ⟨by omega, by omega⟩ ⟨by omega, by omega⟩ ⟨by omega, by omega⟩
        obtain ⟨i, hi⟩ : ∃ i : Nat, (i : Int) = (Y + q j) * W + X := ⟨((Y + q j) * W + X).toNat, by omega⟩
        have hin : i < N := by have := HN.out; omega
        have st := hI.row.cell hin
        have fz := hI.row.frozen i
        have ST := Lib.hid (scK_step (p := p) (q := q) (m := m) HI.out hlt i (by rw [← hX, ← hY, he]; exact hi) (by rw [← hX, he]; exact hqj.1))
        obtain ⟨b, off, rfl, hcl⟩ := HR.out _ hI.bel (by omega)
        have hck := hcl k hlt
        obtain ⟨bq, oq, rfl, hcq⟩ := HQ.out _ hI.bel (by omega)
        have hcj := hcq j hjm
        have u1 : (k : Int).tmod W = X := by rw [hX]; exact Int.tmod_eq_emod_of_nonneg (by omega)
        have u2 : (k : Int).tdiv W = Y := by rw [hY]; exact Int.tdiv_eq_ediv_of_nonneg (by omega)
        have u3 : ¬ W = 0 := by omega
        have u4 : IntKind.i64.wrap X = X := IntWalk.i64_in _ (by omega)
        have u5 : IntKind.i64.wrap Y = Y := IntWalk.i64_in _ (by omega)
        have u6 : X.tmod m = (j : Int) := by rw [hj]; exact Int.tmod_eq_emod_of_nonneg (by omega)
        have u7 : IntKind.i64.wrap (j : Int) = (j : Int) := IntWalk.i64_in _ (by omega)
        have u8 : IntKind.i64.wrap (Y + q j) = Y + q j := IntWalk.i64_in _ (by omega)
        have u9 : IntKind.i64.wrap ((Y + q j) * W) = (Y + q j) * W := IntWalk.i64_in _ (by omega)
        have u10 : IntKind.i64.wrap ((Y + q j) * W + X) = (i : Int) := by rw [← hi]; exact IntWalk.i64_in _ (by omega)
        have j1 : (0 : Int) ≤ (j : Int) := by omega
        have j2 : (j : Int) < (m : Int) := by omega
        have i0 : (0 : Int) ≤ (i : Int) := by omega
        have iN : (i : Int) < (N : Int) := by omega
        clear hcl hcq hI Bi hi hj hX hY he i1 i2 i3 i4 x1 x2 y1 y2 hV
        go_wp2
        go_quiet (fail)
        go_wp2
        go_region
        go_wp2
        go_roundg (n - (k + 1))
        case measure => omega
        case rel => exact ⟨k + 1, by omega, rfl, by go_num, (HS.out.set (by repeat (first | (with_reducible assumption) | (with_reducible exact Below.refl _ _) | (with_reducible refine Below.drew ?_) | (with_reducible refine below_drewN ?_ _) | ((with_reducible refine Below.alloc ?_ ?_ _); rotate_left; (focus (first | exact Nat.le_refl _ | omega | (simp; done) | (simp; omega) | (simp at *; omega)))) | ((with_reducible refine Below.setCell ?_ ?_ _); rotate_left; (focus (first | exact Nat.le_refl _ | omega | (simp; done) | (simp; omega) | (simp at *; omega)))))) i _).congr fun j _ => ST.out j⟩
      · obtain rfl : k = n := by omega
        have Ba := hI.b (b := w.heap.size + 1) (t := 26) (cs := #[.int .i64 0, .int .i64 0, .slice none 0 0]) (by simp)
        have Bb := hI.b (b := w.heap.size + 1 + 1) (t := 28) (cs := #[.int .i64 0, .int .i64 0]) (by simp)
        have n1 := (hI.blk (w.heap.size + 1, 26, #[.int .i64 0, .int .i64 0, .slice none 0 0]) (by simp)).2
        have n2 := (hI.blk (w.heap.size + 1 + 1, 28, #[.int .i64 0, .int .i64 0]) (by simp)).2
        have ca := Ba.cell
        have fa := Ba.frozen
        have cb := Bb.cell
        have fb := Bb.frozen
        have Hrow := Lib.hid (hI.row.congr (scK_all HI.out (fun j _ => ⟨Int.emod_nonneg _ (by omega), Int.emod_lt_of_pos _ (by omega)⟩)))
        have hbel := hI.bel
        have hlow := hI.low
        clear hI
        go_wp2
        refine bodyPost_ret (v := (.tuple #[iv W V (some ⟨g, 0, none⟩) N N, fv 0 0])) (by simp [results, Try.results63, go_sem, *]) rfl ?_
        refine ⟨_, rfl, hlow, ?_, (by repeat (first | (with_reducible assumption) | (with_reducible exact Below.refl _ _) | (with_reducible refine Below.drew ?_) | (with_reducible refine below_drewN ?_ _) | ((with_reducible refine Below.alloc ?_ ?_ _); rotate_left; (focus (first | exact Nat.le_refl _ | omega | (simp; done) | (simp; omega) | (simp at *; omega)))) | ((with_reducible refine Below.setCell ?_ ?_ _); rotate_left; (focus (first | exact Nat.le_refl _ | omega | (simp; done) | (simp; omega) | (simp at *; omega))))))⟩
        have := Hrow.out
        exact (by repeat (first | (with_reducible assumption) | (with_reducible refine World.rowIs.drew ?_) | (with_reducible refine rowIs_drewN ?_ _) | (with_reducible refine World.rowIs.alloc ?_ _) | ((with_reducible refine World.rowIs.setOther ?_ ?_ _); rotate_left; (focus (first | (simp; done) | (simp; omega) | omega)))))

end Go.Proofs.Ytpdjiokmafoppaa
