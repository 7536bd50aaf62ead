/- ref6.RowsShifted and ref6.ColumnsShifted. Conditions: the image is valid; the pixels and the numbers read; the numbers are in range. -/
import Derived.Test.YtpdjiokmafoppaaAnswer
namespace Go.Proofs.Ytpdjiokmafoppaa
open Go.RowKit

/-- Rows shifted; V is the new width. -/
def srF (V W H : Int) (p q : Nat → Int) (m : Nat) : Nat → Int := mk2 V (fun x y => px W H p (x - elF q m y) y)
theorem el_bd {q : Nat → Int} {m : Nat} {i : Int} (h : ∀ i, i < m → 0 ≤ q i ∧ q i ≤ 24) : 0 ≤ elF q m i ∧ elF q m i ≤ 24 := by
  unfold elF
  split
  · omega
  · have a := Int.emod_nonneg i (show (m : Int) ≠ 0 by omega)
    have b := Int.emod_lt_of_pos i (show (0 : Int) < m by omega)
    exact h _ (by omega)

set_option maxHeartbeats 4000000 in
set_option maxRecDepth 100000 in
theorem RowsShifted_ok (A B : Option Addr) (n c m d N : Nat) (W H V : Int) (p q : Nat → Int) (w : World) (hi : ImgOk W H n) (hr : RdB w A n p) (hq : RdI w B m q) (hm : m ≤ 700) (hb : ∀ i, i < m → 0 ≤ q i ∧ q i ≤ 24) (hbig : W + moF q m ≤ 640)
    (hV : V = W + moF q m) (hN : (N : Int) = V * H) :
    Calls Try.prog 65 #[iv W H A n c, .slice B m d] w fun e w' => ∃ g, e = .returned (iv V H (some ⟨g, 0, none⟩) N N) ∧ w.heap.size ≤ g ∧ w'.rowIs g 5 N (fun k => .int .u8 (srF V W H p q m k)) ∧ Below w.heap.size w w' := by
  have HR := rd_later hr
  have HQ := rd_later hq
  have HI := Lib.hid hi
  have hnb : n ≤ 409600 := by have := mul_bd ⟨hi.w1, hi.w2⟩ ⟨hi.h1, hi.h2⟩; have := hi.len; omega
  have mb := moF_bd (p := q) (n := m) (b := 24) (by omega) (fun i hi => (hb i hi).2)
  have hW := hi.w1
  have hW2 := hi.w2
  have hH1 := hi.h1
  have hH2 := hi.h2
  have HB := Lib.hid hb
  have HO := Lib.hid (show ImgOk V H N from ⟨by omega, by omega, by omega, by omega, hN⟩)
  have hNb : N ≤ 409600 := by have := mul_bd ⟨HO.out.w1, HO.out.w2⟩ ⟨HO.out.h1, HO.out.h2⟩; omega
  have HN := Lib.hid hN
  have hV1 : 1 ≤ V ∧ V ≤ 640 := by omega
  have HM := Lib.hid hm
  have hmx : m ≤ maxLen := by unfold maxLen; omega
  have v1 : IntKind.i64.wrap (W + moF q m) = V := by rw [hV]; exact IntWalk.i64_in _ (by omega)
  clear hr hq hi hb hN hV hbig
  go_enter Try.func65, Try.ntmps65
  go_upto_region 1 with fail
  have BiX : Blk (w.alloc (.cells #[.int .i64 W, .int .i64 H, .slice A n c] 26)) w.heap.size 26 #[.int .i64 W, .int .i64 H, .slice A n c] := Blk.new _ _ _
  obtain ⟨w1, hw1⟩ : ∃ X : World, X = (w.alloc (.cells #[.int .i64 W, .int .i64 H, .slice A n c] 26)).alloc (.cells #[.int .i64 0, .int .i64 0, .slice none 0 0] 26) := ⟨_, rfl⟩
  rw [← hw1]
  have kw1 : Below w.heap.size w w1 := by rw [hw1]; exact (by repeat (first | (with_reducible assumption) | (with_reducible exact Below.refl _ _) | (with_reducible refine Below.drew ?_) | (with_reducible refine below_drewN ?_ _) | ((with_reducible refine Below.alloc ?_ ?_ _); rotate_left; (focus (first | exact Nat.le_refl _ | omega | (simp; done) | (simp; omega) | (simp at *; omega)))) | ((with_reducible refine Below.setCell ?_ ?_ _); rotate_left; (focus (first | exact Nat.le_refl _ | omega | (simp; done) | (simp; omega) | (simp at *; omega))))))
  have zw1 : w.heap.size + 1 + 1 ≤ w1.heap.size := by rw [hw1]; simp
  have Bi : Blk w1 w.heap.size 26 #[.int .i64 W, .int .i64 H, .slice A n c] := by rw [hw1]; exact BiX.alloc _
  have Ba : Blk w1 (w.heap.size + 1) 26 #[.int .i64 0, .int .i64 0, .slice none 0 0] := by rw [hw1]; exact Blk.new_at _ _ _ (by simp)
  have liw1 := Bi.lt
  have law1 := Ba.lt
  have ci := Bi.cell
  clear hw1 BiX
  have CS : Hid (∀ X, Below w1.heap.size w1 X → X.cell? ⟨w.heap.size, 0, none⟩ = some (.int .i64 W) ∧ X.cell? ⟨w.heap.size, 1, none⟩ = some (.int .i64 H)) :=
    Lib.hid fun X h => ⟨(h.cell (p := ⟨w.heap.size, 0, none⟩) liw1).trans (ci 0), (h.cell (p := ⟨w.heap.size, 1, none⟩) liw1).trans (ci 1)⟩
  clear ci
  go_cut [5] (fun s5 wx => ∃ g b5 : Nat, s5 = .pointer (some ⟨b5, 0, none⟩) ∧ LI w g N (fun _ => .int .u8 255) [(w.heap.size, 26, #[.int .i64 W, .int .i64 H, .slice A n c]), (w.heap.size + 1, 26, #[.int .i64 0, .int .i64 0, .slice none 0 0]), (b5, 26, #[.int .i64 V, .int .i64 H, .slice (some ⟨g, 0, none⟩) N N])] wx)
  case first =>
    go_region_held3 (fun X => X.cell? ⟨w.heap.size, 0, none⟩ = some (.int .i64 W) ∧ X.cell? ⟨w.heap.size, 1, none⟩ = some (.int .i64 H))
      (exact CS.out _ (by repeat (first | (with_reducible assumption) | (with_reducible exact Below.refl _ _) | (with_reducible refine Below.drew ?_) | (with_reducible refine below_drewN ?_ _) | ((with_reducible refine Below.alloc ?_ ?_ _); rotate_left; (focus (first | exact Nat.le_refl _ | omega | (simp; done) | (simp; omega) | (simp at *; omega)))) | ((with_reducible refine Below.setCell ?_ ?_ _); rotate_left; (focus (first | exact Nat.le_refl _ | omega | (simp; done) | (simp; omega) | (simp at *; omega)))))))
      (first
        | (go_at_call 124; refine (Most_ok B m d q _ (HQ.out _ (by repeat (first | (with_reducible assumption) | (with_reducible exact Below.refl _ _) | (with_reducible refine Below.drew ?_) | (with_reducible refine below_drewN ?_ _) | ((with_reducible refine Below.alloc ?_ ?_ _); rotate_left; (focus (first | exact Nat.le_refl _ | omega | (simp; done) | (simp; omega) | (simp at *; omega)))) | ((with_reducible refine Below.setCell ?_ ?_ _); rotate_left; (focus (first | exact Nat.le_refl _ | omega | (simp; done) | (simp; omega) | (simp at *; omega))))))) hmx).mono ?_; rintro e w' ⟨rfl, rfl⟩)
        | (go_at_call 98; refine (White_any V H N HN.out (by omega) _).mono ?_; rintro e w4 ⟨rfl, hrow4, hbw4⟩; have hr4 := Lib.hid hrow4; clear hrow4; obtain ⟨hc4, hf4⟩ := bcell hbw4; have hz4 := hbw4.size; (try simp at hz4); have k4 : Below w1.heap.size w1 w4 := Below.trans (by repeat (first | (with_reducible assumption) | (with_reducible exact Below.refl _ _) | (with_reducible refine Below.drew ?_) | (with_reducible refine below_drewN ?_ _) | ((with_reducible refine Below.alloc ?_ ?_ _); rotate_left; (focus (first | exact Nat.le_refl _ | omega | (simp; done) | (simp; omega) | (simp at *; omega)))) | ((with_reducible refine Below.setCell ?_ ?_ _); rotate_left; (focus (first | exact Nat.le_refl _ | omega | (simp; done) | (simp; omega) | (simp at *; omega)))))) (hbw4.mono (by (focus (first | exact Nat.le_refl _ | omega | (simp; done) | (simp; omega) | (simp at *; omega)))))))
    all_goals
      go_wp2_with fail
      go_meet
      have hrow4 := hr4.out
      simp at hrow4
      have hl4 := hrow4.lt
      have kk4 : Below w.heap.size w w4 := kw1.trans (k4.mono (by omega))
      first
        | refine ⟨w1.heap.size + 1, w4.heap.size, rfl, ?_, ?_, by omega, (by repeat (first | (with_reducible assumption) | (with_reducible exact Below.refl _ _) | (with_reducible refine Below.drew ?_) | (with_reducible refine below_drewN ?_ _) | ((with_reducible refine Below.alloc ?_ ?_ _); rotate_left; (focus (first | exact Nat.le_refl _ | omega | (simp; done) | (simp; omega) | (simp at *; omega)))) | ((with_reducible refine Below.setCell ?_ ?_ _); rotate_left; (focus (first | exact Nat.le_refl _ | omega | (simp; done) | (simp; omega) | (simp at *; omega))))))⟩
        | refine ⟨w1.heap.size + 1 + 1, w1.heap.size, rfl, ?_, ?_, by omega, (by repeat (first | (with_reducible assumption) | (with_reducible exact Below.refl _ _) | (with_reducible refine Below.drew ?_) | (with_reducible refine below_drewN ?_ _) | ((with_reducible refine Below.alloc ?_ ?_ _); rotate_left; (focus (first | exact Nat.le_refl _ | omega | (simp; done) | (simp; omega) | (simp at *; omega)))) | ((with_reducible refine Below.setCell ?_ ?_ _); rotate_left; (focus (first | exact Nat.le_refl _ | omega | (simp; done) | (simp; omega) | (simp at *; omega))))))⟩
      · exact (by repeat (first | (with_reducible assumption) | (with_reducible refine World.rowIs.drew ?_) | (with_reducible refine rowIs_drewN ?_ _) | (with_reducible refine World.rowIs.alloc ?_ _) | ((with_reducible refine World.rowIs.setOther ?_ ?_ _); rotate_left; (focus (first | (simp; done) | (simp; omega) | omega)))))
      · intro x hx
        simp only [List.mem_cons, List.not_mem_nil, or_false] at hx
        rcases hx with rfl | rfl | rfl
        · exact ⟨(by first | exact (Bi.below k4 (by (focus (first | omega | (simp; done) | (simp; omega) | (simp at *; omega))))).alloc _ | exact (((Bi.below k4 (by (focus (first | omega | (simp; done) | (simp; omega) | (simp at *; omega))))).far (by (focus (first | (simp; done) | (simp; omega) | omega))) _).far (by (focus (first | (simp; done) | (simp; omega) | omega))) _).far (by (focus (first | (simp; done) | (simp; omega) | omega))) _), (by (focus (first | (simp; done) | (simp; omega) | omega)))⟩
        · exact ⟨(by first | exact (Ba.below k4 (by (focus (first | omega | (simp; done) | (simp; omega) | (simp at *; omega))))).alloc _ | exact (((Ba.below k4 (by (focus (first | omega | (simp; done) | (simp; omega) | (simp at *; omega))))).far (by (focus (first | (simp; done) | (simp; omega) | omega))) _).far (by (focus (first | (simp; done) | (simp; omega) | omega))) _).far (by (focus (first | (simp; done) | (simp; omega) | omega))) _), (by (focus (first | (simp; done) | (simp; omega) | omega)))⟩
        · exact ⟨(by
            first
              | exact Blk.new _ _ _
              | (have B7 : Blk w4 (w1.heap.size) 26 #[.int .i64 0, .int .i64 0, .slice none 0 0] := Blk.below (by repeat (first | (with_reducible assumption) | (with_reducible exact Blk.new _ _ _) | ((with_reducible refine Blk.new_at _ _ _ ?_); (focus (first | (simp; done) | omega))) | (with_reducible refine Blk.drew ?_) | (with_reducible refine Blk.drewN ?_ _) | (with_reducible refine Blk.alloc ?_ _) | ((with_reducible refine Blk.far ?_ ?_ _); rotate_left; (focus (first | (simp; done) | (simp; omega) | omega))))) hbw4 (by (focus (first | omega | (simp; done) | (simp; omega) | (simp at *; omega))))
                 exact ((B7.set_ 0 _).set_ 1 _).set_ 2 _)), (by (focus (first | (simp; done) | (simp; omega) | omega)))⟩
  case rest =>
    obtain ⟨g, b5, rfl, hI0⟩ := hcut
    have H0 := hI0.congr (G := upTo 0 (fun k => .int .u8 (srF V W H p q m k)) (fun _ => .int .u8 255)) (fun i _ => by rw [upTo_zero])
    clear hI0 Bi Ba CS kw1 zw1 liw1 law1
    go_wp2
    go_loopg [6] N (fun gk s6 wr => ∃ k : Nat, k ≤ N ∧ gk = N - k ∧ s6 = .int .i64 k ∧ LI w g N (upTo k (fun k => .int .u8 (srF V W H p q m k)) (fun _ => .int .u8 255)) [(w.heap.size, 26, #[.int .i64 W, .int .i64 H, .slice A n c]), (w.heap.size + 1, 26, #[.int .i64 0, .int .i64 0, .slice none 0 0]), (b5, 26, #[.int .i64 V, .int .i64 H, .slice (some ⟨g, 0, none⟩) N N])] wr)
    case atStart => exact ⟨0, by omega, rfl, rfl, H0⟩
    case round =>
      obtain ⟨k, hk, rfl, rfl, hI⟩ := hrel
      clear H0
      have HS := Lib.hid hI
      have Bo := hI.b (b := b5) (t := 26) (cs := #[.int .i64 V, .int .i64 H, .slice (some ⟨g, 0, none⟩) N N]) (by simp)
      have co := Bo.cell
      by_cases hlt : k < N
      · have Bi := hI.b (b := w.heap.size) (t := 26) (cs := #[.int .i64 W, .int .i64 H, .slice A n c]) (by simp)
        have ci := Bi.cell
        have li := Bi.lt
        have lo := Bo.lt
        obtain ⟨⟨x1, x2⟩, ⟨y1, y2⟩, _, kb, _⟩ := pix_bd HO.out hlt
        have ebd := el_bd (i := ((k : Int) / V)) HB.out
        have HPX : Hid (px W H p (((k : Int) % V) - elF q m ((k : Int) / V)) ((k : Int) / V) = srF V W H p q m k) := Lib.hid rfl
        have HEL := Lib.hid (fun w' (h : RdI w' B m q) => element_any B m d q ((k : Int) / V) w' h ⟨by omega, by omega⟩ HM.out)
        have ni := (hI.blk (w.heap.size, 26, #[.int .i64 W, .int .i64 H, .slice A n c]) (by simp)).2
        have no := (hI.blk (b5, 26, #[.int .i64 V, .int .i64 H, .slice (some ⟨g, 0, none⟩) N N]) (by simp)).2
        have st := hI.row.cell hlt
        have fz := hI.row.frozen k
        have lg := hI.row.lt
        have CS : Hid (∀ X, Below wr.heap.size wr X → X.cell? ⟨w.heap.size, 0, none⟩ = some (.int .i64 W) ∧ X.cell? ⟨w.heap.size, 1, none⟩ = some (.int .i64 H) ∧ X.cell? ⟨w.heap.size, 2, none⟩ = some (.slice A n c) ∧ X.cell? ⟨b5, 2, none⟩ = some (.slice (some ⟨g, 0, none⟩) N N)) :=
          Lib.hid fun X h => ⟨(Bi.below h li).cell 0, (Bi.below h li).cell 1, (Bi.below h li).cell 2, (Bo.below h lo).cell 2⟩
        have CT : Hid (∀ X v, Below wr.heap.size wr X → (X.setCell ⟨g, k, none⟩ v).cell? ⟨w.heap.size, 0, none⟩ = some (.int .i64 W) ∧ (X.setCell ⟨g, k, none⟩ v).cell? ⟨w.heap.size, 1, none⟩ = some (.int .i64 H) ∧ (X.setCell ⟨g, k, none⟩ v).cell? ⟨w.heap.size, 2, none⟩ = some (.slice A n c) ∧ (X.setCell ⟨g, k, none⟩ v).cell? ⟨b5, 2, none⟩ = some (.slice (some ⟨g, 0, none⟩) N N)) :=
          Lib.hid fun X v h => ⟨((Bi.below h li).far ni v).cell 0, ((Bi.below h li).far ni v).cell 1, ((Bi.below h li).far ni v).cell 2, ((Bo.below h lo).far no v).cell 2⟩
        have HRr := rd_later (HR.out _ hI.bel)
        have HQr := rd_later (HQ.out _ hI.bel)
        have u1 : (k : Int).tmod V = (k : Int) % V := Int.tmod_eq_emod_of_nonneg (by omega)
        have u2 : (k : Int).tdiv V = (k : Int) / V := Int.tdiv_eq_ediv_of_nonneg (by omega)
        have u3 : ¬ V = 0 := by omega
        have u4 : IntKind.i64.wrap ((k : Int) % V) = ((k : Int) % V) := IntWalk.i64_in _ (by omega)
        have u5 : IntKind.i64.wrap ((k : Int) / V) = ((k : Int) / V) := IntWalk.i64_in _ (by omega)
        have u6 : IntKind.i64.wrap (((k : Int) % V) - elF q m ((k : Int) / V)) = (((k : Int) % V) - elF q m ((k : Int) / V)) := IntWalk.i64_in _ (by omega)
        clear hI Bi Bo
        go_wp2_with fail
        go_quiet (fail)
        go_wp2_with fail
        go_region_held3 (fun X => X.cell? ⟨w.heap.size, 0, none⟩ = some (.int .i64 W) ∧ X.cell? ⟨w.heap.size, 1, none⟩ = some (.int .i64 H) ∧ X.cell? ⟨w.heap.size, 2, none⟩ = some (.slice A n c) ∧ X.cell? ⟨b5, 2, none⟩ = some (.slice (some ⟨g, 0, none⟩) N N))
          (first | exact CT.out _ _ (by repeat (first | (with_reducible assumption) | (with_reducible exact Below.refl _ _) | (with_reducible refine Below.drew ?_) | (with_reducible refine below_drewN ?_ _) | ((with_reducible refine Below.alloc ?_ ?_ _); rotate_left; (focus (first | exact Nat.le_refl _ | omega | (simp; done) | (simp; omega) | (simp at *; omega)))) | ((with_reducible refine Below.setCell ?_ ?_ _); rotate_left; (focus (first | exact Nat.le_refl _ | omega | (simp; done) | (simp; omega) | (simp at *; omega)))))) | exact CS.out _ (by repeat (first | (with_reducible assumption) | (with_reducible exact Below.refl _ _) | (with_reducible refine Below.drew ?_) | (with_reducible refine below_drewN ?_ _) | ((with_reducible refine Below.alloc ?_ ?_ _); rotate_left; (focus (first | exact Nat.le_refl _ | omega | (simp; done) | (simp; omega) | (simp at *; omega)))) | ((with_reducible refine Below.setCell ?_ ?_ _); rotate_left; (focus (first | exact Nat.le_refl _ | omega | (simp; done) | (simp; omega) | (simp at *; omega)))))))
          (first
            | (go_at_call 125; refine (HEL.out _ (HQr.out _ (by repeat (first | (with_reducible assumption) | (with_reducible exact Below.refl _ _) | (with_reducible refine Below.drew ?_) | (with_reducible refine below_drewN ?_ _) | ((with_reducible refine Below.alloc ?_ ?_ _); rotate_left; (focus (first | exact Nat.le_refl _ | omega | (simp; done) | (simp; omega) | (simp at *; omega)))) | ((with_reducible refine Below.setCell ?_ ?_ _); rotate_left; (focus (first | exact Nat.le_refl _ | omega | (simp; done) | (simp; omega) | (simp at *; omega)))))))).mono ?_; rintro e w' ⟨rfl, rfl⟩)
            | (go_at_call 33; refine (Pixel_any A n c W H _ _ p _ HI.out (HRr.out _ (by repeat (first | (with_reducible assumption) | (with_reducible exact Below.refl _ _) | (with_reducible refine Below.drew ?_) | (with_reducible refine below_drewN ?_ _) | ((with_reducible refine Below.alloc ?_ ?_ _); rotate_left; (focus (first | exact Nat.le_refl _ | omega | (simp; done) | (simp; omega) | (simp at *; omega)))) | ((with_reducible refine Below.setCell ?_ ?_ _); rotate_left; (focus (first | exact Nat.le_refl _ | omega | (simp; done) | (simp; omega) | (simp at *; omega)))))))).mono ?_; rintro e w4 ⟨rfl, hb4⟩; obtain ⟨hc4, hf4⟩ := bcell hb4; have hz4 := hb4.size; have k4 : Below wr.heap.size wr w4 := Below.trans (by repeat (first | (with_reducible assumption) | (with_reducible exact Below.refl _ _) | (with_reducible refine Below.drew ?_) | (with_reducible refine below_drewN ?_ _) | ((with_reducible refine Below.alloc ?_ ?_ _); rotate_left; (focus (first | exact Nat.le_refl _ | omega | (simp; done) | (simp; omega) | (simp at *; omega)))) | ((with_reducible refine Below.setCell ?_ ?_ _); rotate_left; (focus (first | exact Nat.le_refl _ | omega | (simp; done) | (simp; omega) | (simp at *; omega)))))) (hb4.mono (by (focus (first | exact Nat.le_refl _ | omega | (simp; done) | (simp; omega) | (simp at *; omega))))); have st4 := (k4.cell (p := ⟨g, k, none⟩) lg).trans st; have fz4 := (k4.frozen (p := ⟨g, k, none⟩) lg).trans fz))
        go_wp2
        go_roundg (N - (k + 1))
        case measure => omega
        case rel => exact ⟨k + 1, by omega, rfl, by go_num, HS.out.step (by repeat (first | (with_reducible assumption) | (with_reducible exact Below.refl _ _) | (with_reducible refine Below.drew ?_) | (with_reducible refine below_drewN ?_ _) | ((with_reducible refine Below.alloc ?_ ?_ _); rotate_left; (focus (first | exact Nat.le_refl _ | omega | (simp; done) | (simp; omega) | (simp at *; omega)))) | ((with_reducible refine Below.setCell ?_ ?_ _); rotate_left; (focus (first | exact Nat.le_refl _ | omega | (simp; done) | (simp; omega) | (simp at *; omega)))))) (by rw [HPX.out])⟩
      · obtain rfl : k = N := by omega
        have Ba := hI.b (b := w.heap.size + 1) (t := 26) (cs := #[.int .i64 0, .int .i64 0, .slice none 0 0]) (by simp)
        have n1 := (hI.blk (w.heap.size + 1, 26, #[.int .i64 0, .int .i64 0, .slice none 0 0]) (by simp)).2
        have ca := Ba.cell
        have fa := Ba.frozen
        have Hrow := Lib.hid (hI.row.congr upTo_all)
        have hbel := hI.bel
        have hlow := hI.low
        clear hI
        go_wp2
        refine bodyPost_ret (v := (iv V H (some ⟨g, 0, none⟩) k k)) (by simp [results, Try.results65, go_sem, *]) rfl ?_
        refine ⟨_, rfl, hlow, ?_, (by repeat (first | (with_reducible assumption) | (with_reducible exact Below.refl _ _) | (with_reducible refine Below.drew ?_) | (with_reducible refine below_drewN ?_ _) | ((with_reducible refine Below.alloc ?_ ?_ _); rotate_left; (focus (first | exact Nat.le_refl _ | omega | (simp; done) | (simp; omega) | (simp at *; omega)))) | ((with_reducible refine Below.setCell ?_ ?_ _); rotate_left; (focus (first | exact Nat.le_refl _ | omega | (simp; done) | (simp; omega) | (simp at *; omega))))))⟩
        have := Hrow.out
        exact (by repeat (first | (with_reducible assumption) | (with_reducible refine World.rowIs.drew ?_) | (with_reducible refine rowIs_drewN ?_ _) | (with_reducible refine World.rowIs.alloc ?_ _) | ((with_reducible refine World.rowIs.setOther ?_ ?_ _); rotate_left; (focus (first | (simp; done) | (simp; omega) | omega)))))

set_option maxHeartbeats 4000000 in
set_option maxRecDepth 100000 in
theorem ColumnsShifted_ok (A B : Option Addr) (n c m d N : Nat) (W H V : Int) (p q : Nat → Int) (w : World) (hi : ImgOk W H n) (hr : RdB w A n p) (hq : RdI w B m q) (hm : m ≤ 700) (hb : ∀ i, i < m → 0 ≤ q i ∧ q i ≤ 24) (hbig : H + moF q m ≤ 640)
    (hV : V = H + moF q m) (hN : (N : Int) = W * V) :
    Calls Try.prog 66 #[iv W H A n c, .slice B m d] w fun e w' => ∃ g, e = .returned (iv W V (some ⟨g, 0, none⟩) N N) ∧ w.heap.size ≤ g ∧ w'.rowIs g 5 N (fun k => .int .u8 (scF W H p q m k)) ∧ Below w.heap.size w w' := by
  have HR := rd_later hr
  have HQ := rd_later hq
  have HI := Lib.hid hi
  have hnb : n ≤ 409600 := by have := mul_bd ⟨hi.w1, hi.w2⟩ ⟨hi.h1, hi.h2⟩; have := hi.len; omega
  have mb := moF_bd (p := q) (n := m) (b := 24) (by omega) (fun i hi => (hb i hi).2)
  have hW := hi.w1
  have hW2 := hi.w2
  have hH1 := hi.h1
  have hH2 := hi.h2
  have HB := Lib.hid hb
  have HO := Lib.hid (show ImgOk W V N from ⟨by omega, by omega, by omega, by omega, hN⟩)
  have hNb : N ≤ 409600 := by have := mul_bd ⟨HO.out.w1, HO.out.w2⟩ ⟨HO.out.h1, HO.out.h2⟩; omega
  have HN := Lib.hid hN
  have hV1 : 1 ≤ V ∧ V ≤ 640 := by omega
  have HM := Lib.hid hm
  have hmx : m ≤ maxLen := by unfold maxLen; omega
  have v1 : IntKind.i64.wrap (H + moF q m) = V := by rw [hV]; exact IntWalk.i64_in _ (by omega)
  clear hr hq hi hb hN hV hbig
  go_enter Try.func66, Try.ntmps66
  go_upto_region 1 with fail
  have BiX : Blk (w.alloc (.cells #[.int .i64 W, .int .i64 H, .slice A n c] 26)) w.heap.size 26 #[.int .i64 W, .int .i64 H, .slice A n c] := Blk.new _ _ _
  obtain ⟨w1, hw1⟩ : ∃ X : World, X = (w.alloc (.cells #[.int .i64 W, .int .i64 H, .slice A n c] 26)).alloc (.cells #[.int .i64 0, .int .i64 0, .slice none 0 0] 26) := ⟨_, rfl⟩
  rw [← hw1]
  have kw1 : Below w.heap.size w w1 := by rw [hw1]; exact (by repeat (first | (with_reducible assumption) | (with_reducible exact Below.refl _ _) | (with_reducible refine Below.drew ?_) | (with_reducible refine below_drewN ?_ _) | ((with_reducible refine Below.alloc ?_ ?_ _); rotate_left; (focus (first | exact Nat.le_refl _ | omega | (simp; done) | (simp; omega) | (simp at *; omega)))) | ((with_reducible refine Below.setCell ?_ ?_ _); rotate_left; (focus (first | exact Nat.le_refl _ | omega | (simp; done) | (simp; omega) | (simp at *; omega))))))
  have zw1 : w.heap.size + 1 + 1 ≤ w1.heap.size := by rw [hw1]; simp
  have Bi : Blk w1 w.heap.size 26 #[.int .i64 W, .int .i64 H, .slice A n c] := by rw [hw1]; exact BiX.alloc _
  have Ba : Blk w1 (w.heap.size + 1) 26 #[.int .i64 0, .int .i64 0, .slice none 0 0] := by rw [hw1]; exact Blk.new_at _ _ _ (by simp)
  have liw1 := Bi.lt
  have law1 := Ba.lt
  have ci := Bi.cell
  clear hw1 BiX
  have CS : Hid (∀ X, Below w1.heap.size w1 X → X.cell? ⟨w.heap.size, 0, none⟩ = some (.int .i64 W) ∧ X.cell? ⟨w.heap.size, 1, none⟩ = some (.int .i64 H)) :=
    Lib.hid fun X h => ⟨(h.cell (p := ⟨w.heap.size, 0, none⟩) liw1).trans (ci 0), (h.cell (p := ⟨w.heap.size, 1, none⟩) liw1).trans (ci 1)⟩
  clear ci
  go_cut [5] (fun s5 wx => ∃ g b5 : Nat, s5 = .pointer (some ⟨b5, 0, none⟩) ∧ LI w g N (fun _ => .int .u8 255) [(w.heap.size, 26, #[.int .i64 W, .int .i64 H, .slice A n c]), (w.heap.size + 1, 26, #[.int .i64 0, .int .i64 0, .slice none 0 0]), (b5, 26, #[.int .i64 W, .int .i64 V, .slice (some ⟨g, 0, none⟩) N N])] wx)
  case first =>
    go_region_held3 (fun X => X.cell? ⟨w.heap.size, 0, none⟩ = some (.int .i64 W) ∧ X.cell? ⟨w.heap.size, 1, none⟩ = some (.int .i64 H))
      (exact CS.out _ (by repeat (first | (with_reducible assumption) | (with_reducible exact Below.refl _ _) | (with_reducible refine Below.drew ?_) | (with_reducible refine below_drewN ?_ _) | ((with_reducible refine Below.alloc ?_ ?_ _); rotate_left; (focus (first | exact Nat.le_refl _ | omega | (simp; done) | (simp; omega) | (simp at *; omega)))) | ((with_reducible refine Below.setCell ?_ ?_ _); rotate_left; (focus (first | exact Nat.le_refl _ | omega | (simp; done) | (simp; omega) | (simp at *; omega)))))))
      (first
        | (go_at_call 124; refine (Most_ok B m d q _ (HQ.out _ (by repeat (first | (with_reducible assumption) | (with_reducible exact Below.refl _ _) | (with_reducible refine Below.drew ?_) | (with_reducible refine below_drewN ?_ _) | ((with_reducible refine Below.alloc ?_ ?_ _); rotate_left; (focus (first | exact Nat.le_refl _ | omega | (simp; done) | (simp; omega) | (simp at *; omega)))) | ((with_reducible refine Below.setCell ?_ ?_ _); rotate_left; (focus (first | exact Nat.le_refl _ | omega | (simp; done) | (simp; omega) | (simp at *; omega))))))) hmx).mono ?_; rintro e w' ⟨rfl, rfl⟩)
        | (go_at_call 98; refine (White_any W V N HN.out (by omega) _).mono ?_; rintro e w4 ⟨rfl, hrow4, hbw4⟩; have hr4 := Lib.hid hrow4; clear hrow4; obtain ⟨hc4, hf4⟩ := bcell hbw4; have hz4 := hbw4.size; (try simp at hz4); have k4 : Below w1.heap.size w1 w4 := Below.trans (by repeat (first | (with_reducible assumption) | (with_reducible exact Below.refl _ _) | (with_reducible refine Below.drew ?_) | (with_reducible refine below_drewN ?_ _) | ((with_reducible refine Below.alloc ?_ ?_ _); rotate_left; (focus (first | exact Nat.le_refl _ | omega | (simp; done) | (simp; omega) | (simp at *; omega)))) | ((with_reducible refine Below.setCell ?_ ?_ _); rotate_left; (focus (first | exact Nat.le_refl _ | omega | (simp; done) | (simp; omega) | (simp at *; omega)))))) (hbw4.mono (by (focus (first | exact Nat.le_refl _ | omega | (simp; done) | (simp; omega) | (simp at *; omega)))))))
    all_goals
      go_wp2_with fail
      go_meet
      have hrow4 := hr4.out
      simp at hrow4
      have hl4 := hrow4.lt
      have kk4 : Below w.heap.size w w4 := kw1.trans (k4.mono (by omega))
      first
        | refine ⟨w1.heap.size + 1, w4.heap.size, rfl, ?_, ?_, by omega, (by repeat (first | (with_reducible assumption) | (with_reducible exact Below.refl _ _) | (with_reducible refine Below.drew ?_) | (with_reducible refine below_drewN ?_ _) | ((with_reducible refine Below.alloc ?_ ?_ _); rotate_left; (focus (first | exact Nat.le_refl _ | omega | (simp; done) | (simp; omega) | (simp at *; omega)))) | ((with_reducible refine Below.setCell ?_ ?_ _); rotate_left; (focus (first | exact Nat.le_refl _ | omega | (simp; done) | (simp; omega) | (simp at *; omega))))))⟩
        | refine ⟨w1.heap.size + 1 + 1, w1.heap.size, rfl, ?_, ?_, by omega, (by repeat (first | (with_reducible assumption) | (with_reducible exact Below.refl _ _) | (with_reducible refine Below.drew ?_) | (with_reducible refine below_drewN ?_ _) | ((with_reducible refine Below.alloc ?_ ?_ _); rotate_left; (focus (first | exact Nat.le_refl _ | omega | (simp; done) | (simp; omega) | (simp at *; omega)))) | ((with_reducible refine Below.setCell ?_ ?_ _); rotate_left; (focus (first | exact Nat.le_refl _ | omega | (simp; done) | (simp; omega) | (simp at *; omega))))))⟩
      · exact (by repeat (first | (with_reducible assumption) | (with_reducible refine World.rowIs.drew ?_) | (with_reducible refine rowIs_drewN ?_ _) | (with_reducible refine World.rowIs.alloc ?_ _) | ((with_reducible refine World.rowIs.setOther ?_ ?_ _); rotate_left; (focus (first | (simp; done) | (simp; omega) | omega)))))
      · intro x hx
        simp only [List.mem_cons, List.not_mem_nil, or_false] at hx
        rcases hx with rfl | rfl | rfl
        · exact ⟨(by first | exact (Bi.below k4 (by (focus (first | omega | (simp; done) | (simp; omega) | (simp at *; omega))))).alloc _ | exact (((Bi.below k4 (by (focus (first | omega | (simp; done) | (simp; omega) | (simp at *; omega))))).far (by (focus (first | (simp; done) | (simp; omega) | omega))) _).far (by (focus (first | (simp; done) | (simp; omega) | omega))) _).far (by (focus (first | (simp; done) | (simp; omega) | omega))) _), (by (focus (first | (simp; done) | (simp; omega) | omega)))⟩
        · exact ⟨(by first | exact (Ba.below k4 (by (focus (first | omega | (simp; done) | (simp; omega) | (simp at *; omega))))).alloc _ | exact (((Ba.below k4 (by (focus (first | omega | (simp; done) | (simp; omega) | (simp at *; omega))))).far (by (focus (first | (simp; done) | (simp; omega) | omega))) _).far (by (focus (first | (simp; done) | (simp; omega) | omega))) _).far (by (focus (first | (simp; done) | (simp; omega) | omega))) _), (by (focus (first | (simp; done) | (simp; omega) | omega)))⟩
        · exact ⟨(by
            first
              | exact Blk.new _ _ _
              | (have B7 : Blk w4 (w1.heap.size) 26 #[.int .i64 0, .int .i64 0, .slice none 0 0] := Blk.below (by repeat (first | (with_reducible assumption) | (with_reducible exact Blk.new _ _ _) | ((with_reducible refine Blk.new_at _ _ _ ?_); (focus (first | (simp; done) | omega))) | (with_reducible refine Blk.drew ?_) | (with_reducible refine Blk.drewN ?_ _) | (with_reducible refine Blk.alloc ?_ _) | ((with_reducible refine Blk.far ?_ ?_ _); rotate_left; (focus (first | (simp; done) | (simp; omega) | omega))))) hbw4 (by (focus (first | omega | (simp; done) | (simp; omega) | (simp at *; omega))))
                 exact ((B7.set_ 0 _).set_ 1 _).set_ 2 _)), (by (focus (first | (simp; done) | (simp; omega) | omega)))⟩
  case rest =>
    obtain ⟨g, b5, rfl, hI0⟩ := hcut
    have H0 := hI0.congr (G := upTo 0 (fun k => .int .u8 (scF W H p q m k)) (fun _ => .int .u8 255)) (fun i _ => by rw [upTo_zero])
    clear hI0 Bi Ba CS kw1 zw1 liw1 law1
    go_wp2
    go_loopg [6] N (fun gk s6 wr => ∃ k : Nat, k ≤ N ∧ gk = N - k ∧ s6 = .int .i64 k ∧ LI w g N (upTo k (fun k => .int .u8 (scF W H p q m k)) (fun _ => .int .u8 255)) [(w.heap.size, 26, #[.int .i64 W, .int .i64 H, .slice A n c]), (w.heap.size + 1, 26, #[.int .i64 0, .int .i64 0, .slice none 0 0]), (b5, 26, #[.int .i64 W, .int .i64 V, .slice (some ⟨g, 0, none⟩) N N])] wr)
    case atStart => exact ⟨0, by omega, rfl, rfl, H0⟩
    case round =>
      obtain ⟨k, hk, rfl, rfl, hI⟩ := hrel
      clear H0
      have HS := Lib.hid hI
      have Bo := hI.b (b := b5) (t := 26) (cs := #[.int .i64 W, .int .i64 V, .slice (some ⟨g, 0, none⟩) N N]) (by simp)
      have co := Bo.cell
      by_cases hlt : k < N
      · have Bi := hI.b (b := w.heap.size) (t := 26) (cs := #[.int .i64 W, .int .i64 H, .slice A n c]) (by simp)
        have ci := Bi.cell
        have li := Bi.lt
        have lo := Bo.lt
        obtain ⟨⟨x1, x2⟩, ⟨y1, y2⟩, _, kb, _⟩ := pix_bd HO.out hlt
        have ebd := el_bd (i := ((k : Int) % W)) HB.out
        have HPX : Hid (px W H p ((k : Int) % W) (((k : Int) / W) - elF q m ((k : Int) % W)) = scF W H p q m k) := Lib.hid rfl
        have HEL := Lib.hid (fun w' (h : RdI w' B m q) => element_any B m d q ((k : Int) % W) w' h ⟨by omega, by omega⟩ HM.out)
        have ni := (hI.blk (w.heap.size, 26, #[.int .i64 W, .int .i64 H, .slice A n c]) (by simp)).2
        have no := (hI.blk (b5, 26, #[.int .i64 W, .int .i64 V, .slice (some ⟨g, 0, none⟩) N N]) (by simp)).2
        have st := hI.row.cell hlt
        have fz := hI.row.frozen k
        have lg := hI.row.lt
        have CS : Hid (∀ X, Below wr.heap.size wr X → X.cell? ⟨w.heap.size, 0, none⟩ = some (.int .i64 W) ∧ X.cell? ⟨w.heap.size, 1, none⟩ = some (.int .i64 H) ∧ X.cell? ⟨w.heap.size, 2, none⟩ = some (.slice A n c) ∧ X.cell? ⟨b5, 2, none⟩ = some (.slice (some ⟨g, 0, none⟩) N N)) :=
          Lib.hid fun X h => ⟨(Bi.below h li).cell 0, (Bi.below h li).cell 1, (Bi.below h li).cell 2, (Bo.below h lo).cell 2⟩
        have CT : Hid (∀ X v, Below wr.heap.size wr X → (X.setCell ⟨g, k, none⟩ v).cell? ⟨w.heap.size, 0, none⟩ = some (.int .i64 W) ∧ (X.setCell ⟨g, k, none⟩ v).cell? ⟨w.heap.size, 1, none⟩ = some (.int .i64 H) ∧ (X.setCell ⟨g, k, none⟩ v).cell? ⟨w.heap.size, 2, none⟩ = some (.slice A n c) ∧ (X.setCell ⟨g, k, none⟩ v).cell? ⟨b5, 2, none⟩ = some (.slice (some ⟨g, 0, none⟩) N N)) :=
          Lib.hid fun X v h => ⟨((Bi.below h li).far ni v).cell 0, ((Bi.below h li).far ni v).cell 1, ((Bi.below h li).far ni v).cell 2, ((Bo.below h lo).far no v).cell 2⟩
        have HRr := rd_later (HR.out _ hI.bel)
        have HQr := rd_later (HQ.out _ hI.bel)
        have u1 : (k : Int).tmod W = (k : Int) % W := Int.tmod_eq_emod_of_nonneg (by omega)
        have u2 : (k : Int).tdiv W = (k : Int) / W := Int.tdiv_eq_ediv_of_nonneg (by omega)
        have u3 : ¬ W = 0 := by omega
        have u4 : IntKind.i64.wrap ((k : Int) % W) = ((k : Int) % W) := IntWalk.i64_in _ (by omega)
        have u5 : IntKind.i64.wrap ((k : Int) / W) = ((k : Int) / W) := IntWalk.i64_in _ (by omega)
        have u6 : IntKind.i64.wrap (((k : Int) / W) - elF q m ((k : Int) % W)) = (((k : Int) / W) - elF q m ((k : Int) % W)) := IntWalk.i64_in _ (by omega)
        clear hI Bi Bo
        go_wp2_with fail
        go_quiet (fail)
        go_wp2_with fail
        go_region_held3 (fun X => X.cell? ⟨w.heap.size, 0, none⟩ = some (.int .i64 W) ∧ X.cell? ⟨w.heap.size, 1, none⟩ = some (.int .i64 H) ∧ X.cell? ⟨w.heap.size, 2, none⟩ = some (.slice A n c) ∧ X.cell? ⟨b5, 2, none⟩ = some (.slice (some ⟨g, 0, none⟩) N N))
          (first | exact CT.out _ _ (by repeat (first | (with_reducible assumption) | (with_reducible exact Below.refl _ _) | (with_reducible refine Below.drew ?_) | (with_reducible refine below_drewN ?_ _) | ((with_reducible refine Below.alloc ?_ ?_ _); rotate_left; (focus (first | exact Nat.le_refl _ | omega | (simp; done) | (simp; omega) | (simp at *; omega)))) | ((with_reducible refine Below.setCell ?_ ?_ _); rotate_left; (focus (first | exact Nat.le_refl _ | omega | (simp; done) | (simp; omega) | (simp at *; omega)))))) | exact CS.out _ (by repeat (first | (with_reducible assumption) | (with_reducible exact Below.refl _ _) | (with_reducible refine Below.drew ?_) | (with_reducible refine below_drewN ?_ _) | ((with_reducible refine Below.alloc ?_ ?_ _); rotate_left; (focus (first | exact Nat.le_refl _ | omega | (simp; done) | (simp; omega) | (simp at *; omega)))) | ((with_reducible refine Below.setCell ?_ ?_ _); rotate_left; (focus (first | exact Nat.le_refl _ | omega | (simp; done) | (simp; omega) | (simp at *; omega)))))))
          (first
            | (go_at_call 125; refine (HEL.out _ (HQr.out _ (by repeat (first | (with_reducible assumption) | (with_reducible exact Below.refl _ _) | (with_reducible refine Below.drew ?_) | (with_reducible refine below_drewN ?_ _) | ((with_reducible refine Below.alloc ?_ ?_ _); rotate_left; (focus (first | exact Nat.le_refl _ | omega | (simp; done) | (simp; omega) | (simp at *; omega)))) | ((with_reducible refine Below.setCell ?_ ?_ _); rotate_left; (focus (first | exact Nat.le_refl _ | omega | (simp; done) | (simp; omega) | (simp at *; omega)))))))).mono ?_; rintro e w' ⟨rfl, rfl⟩)
            | (go_at_call 33; refine (Pixel_any A n c W H _ _ p _ HI.out (HRr.out _ (by repeat (first | (with_reducible assumption) | (with_reducible exact Below.refl _ _) | (with_reducible refine Below.drew ?_) | (with_reducible refine below_drewN ?_ _) | ((with_reducible refine Below.alloc ?_ ?_ _); rotate_left; (focus (first | exact Nat.le_refl _ | omega | (simp; done) | (simp; omega) | (simp at *; omega)))) | ((with_reducible refine Below.setCell ?_ ?_ _); rotate_left; (focus (first | exact Nat.le_refl _ | omega | (simp; done) | (simp; omega) | (simp at *; omega)))))))).mono ?_; rintro e w4 ⟨rfl, hb4⟩; obtain ⟨hc4, hf4⟩ := bcell hb4; have hz4 := hb4.size; have k4 : Below wr.heap.size wr w4 := Below.trans (by repeat (first | (with_reducible assumption) | (with_reducible exact Below.refl _ _) | (with_reducible refine Below.drew ?_) | (with_reducible refine below_drewN ?_ _) | ((with_reducible refine Below.alloc ?_ ?_ _); rotate_left; (focus (first | exact Nat.le_refl _ | omega | (simp; done) | (simp; omega) | (simp at *; omega)))) | ((with_reducible refine Below.setCell ?_ ?_ _); rotate_left; (focus (first | exact Nat.le_refl _ | omega | (simp; done) | (simp; omega) | (simp at *; omega)))))) (hb4.mono (by (focus (first | exact Nat.le_refl _ | omega | (simp; done) | (simp; omega) | (simp at *; omega))))); have st4 := (k4.cell (p := ⟨g, k, none⟩) lg).trans st; have fz4 := (k4.frozen (p := ⟨g, k, none⟩) lg).trans fz))
        go_wp2
        go_roundg (N - (k + 1))
        case measure => omega
        case rel => exact ⟨k + 1, by omega, rfl, by go_num, HS.out.step (by repeat (first | (with_reducible assumption) | (with_reducible exact Below.refl _ _) | (with_reducible refine Below.drew ?_) | (with_reducible refine below_drewN ?_ _) | ((with_reducible refine Below.alloc ?_ ?_ _); rotate_left; (focus (first | exact Nat.le_refl _ | omega | (simp; done) | (simp; omega) | (simp at *; omega)))) | ((with_reducible refine Below.setCell ?_ ?_ _); rotate_left; (focus (first | exact Nat.le_refl _ | omega | (simp; done) | (simp; omega) | (simp at *; omega)))))) (by rw [HPX.out])⟩
      · obtain rfl : k = N := by omega
        have Ba := hI.b (b := w.heap.size + 1) (t := 26) (cs := #[.int .i64 0, .int .i64 0, .slice none 0 0]) (by simp)
        have n1 := (hI.blk (w.heap.size + 1, 26, #[.int .i64 0, .int .i64 0, .slice none 0 0]) (by simp)).2
        have ca := Ba.cell
        have fa := Ba.frozen
        have Hrow := Lib.hid (hI.row.congr upTo_all)
        have hbel := hI.bel
        have hlow := hI.low
        clear hI
        go_wp2
        refine bodyPost_ret (v := (iv W V (some ⟨g, 0, none⟩) k k)) (by simp [results, Try.results66, go_sem, *]) rfl ?_
        refine ⟨_, rfl, hlow, ?_, (by repeat (first | (with_reducible assumption) | (with_reducible exact Below.refl _ _) | (with_reducible refine Below.drew ?_) | (with_reducible refine below_drewN ?_ _) | ((with_reducible refine Below.alloc ?_ ?_ _); rotate_left; (focus (first | exact Nat.le_refl _ | omega | (simp; done) | (simp; omega) | (simp at *; omega)))) | ((with_reducible refine Below.setCell ?_ ?_ _); rotate_left; (focus (first | exact Nat.le_refl _ | omega | (simp; done) | (simp; omega) | (simp at *; omega))))))⟩
        have := Hrow.out
        exact (by repeat (first | (with_reducible assumption) | (with_reducible refine World.rowIs.drew ?_) | (with_reducible refine rowIs_drewN ?_ _) | (with_reducible refine World.rowIs.alloc ?_ _) | ((with_reducible refine World.rowIs.setOther ?_ ?_ _); rotate_left; (focus (first | (simp; done) | (simp; omega) | omega)))))

end Go.Proofs.Ytpdjiokmafoppaa
