/- ref6.Torn. Conditions: the image and the tear are valid; the pixels and the filling read. -/
import Derived.Test.YtpdjiokmafoppaaTear
namespace Go.Proofs.Ytpdjiokmafoppaa
open Go.RowKit

theorem LI_drew {w wr : World} {g N : Nat} {F : Nat → Value} {bs : List (Nat × TypeId × Array Value)} (h : LI w g N F bs wr) : LI w g N F bs wr.drew := h.mono (Below.refl _ _).drew
theorem up_two {k : Nat} {F r : Nat → Value} {v1 v2 : Value} (h : v2 = F k) (i : Nat) : (if i = k then v2 else (if i = k then v1 else upTo k F r i)) = upTo (k + 1) F r i := by
  unfold upTo
  by_cases e : i = k
  · rw [if_pos e, if_pos (by omega), e, h]
  · rw [if_neg e, if_neg e]
    by_cases e2 : i < k
    · rw [if_pos e2, if_pos (by omega)]
    · rw [if_neg e2, if_neg (by omega)]

set_option maxHeartbeats 8000000 in
set_option maxRecDepth 100000 in
theorem Torn_ok (A B : Option Addr) (n c m d : Nat) (W H L T TW TH : Int) (p f : Nat → Int) (w : World) (hi : ImgOk W H n) (ht : TearOk W H L T TW TH m) (hr : RdB w A n p) (hq : RdB w B m f) :
    Calls Try.prog 73 #[iv W H A n c, tv L T TW TH B m d] w fun e w' => ∃ g, e = .returned (iv W H (some ⟨g, 0, none⟩) n n) ∧ w.heap.size ≤ g ∧ w'.rowIs g 5 n (fun k => .int .u8 (toF W L T TW TH m f p k)) ∧ Below w.heap.size w w' := by
  obtain ⟨bq, oq, hBq, hcq⟩ := hq ht.m1
  subst hBq
  have hqlt : bq < w.heap.size := World.block_lt_of_cell? _ _ (hcq 0 ht.m1)
  have HCQ := Lib.hid hcq
  have npos : 0 < n := by have := mul_bd ⟨hi.w1, hi.w2⟩ ⟨hi.h1, hi.h2⟩; have := hi.len; omega
  obtain ⟨b, off, hBA, hcl⟩ := hr npos
  subst hBA
  have hblt : b < w.heap.size := World.block_lt_of_cell? _ _ (hcl 0 npos)
  have HCL := Lib.hid hcl
  have HI := Lib.hid hi
  have HTK := Lib.hid ht
  have bl := ht.l
  have bt := ht.t
  have bw := ht.w
  have bh := ht.h
  have mp := ht.m1
  have mq := ht.m2
  have hW := hi.w1
  have hW2 := hi.w2
  have hH1 := hi.h1
  have hH2 := hi.h2
  have hnb : n ≤ 409600 := by have := mul_bd ⟨hi.w1, hi.w2⟩ ⟨hi.h1, hi.h2⟩; have := hi.len; omega
  clear hr hq hcq hcl hi ht
  go_enter Try.func73, Try.ntmps73
  go_wp2_with fail
  refine (White_any W H n HI.out.len (by omega) _).mono ?_
  rintro e w1 ⟨rfl, hrow, hbw1⟩
  have Hrow := Lib.hid hrow
  have hgl := hrow.lt
  clear hrow
  have hzw1 := hbw1.size
  try simp at hzw1
  have kw1 : Below w.heap.size w w1 := Below.trans (by repeat (first | (with_reducible assumption) | (with_reducible exact Below.refl _ _) | (with_reducible refine Below.drew ?_) | (with_reducible refine below_drewN ?_ _) | ((with_reducible refine Below.alloc ?_ ?_ _); rotate_left; (focus (first | exact Nat.le_refl _ | omega | (simp; done) | (simp; omega) | (simp at *; omega)))) | ((with_reducible refine Below.setCell ?_ ?_ _); rotate_left; (focus (first | exact Nat.le_refl _ | omega | (simp; done) | (simp; omega) | (simp at *; omega)))))) (hbw1.mono (by (focus (first | exact Nat.le_refl _ | omega | (simp; done) | (simp; omega) | (simp at *; omega)))))
  have kzw1 := kw1.size
  try have lww1 : w.heap.size < w1.heap.size := by omega
  have Bin : Blk w1 (w.heap.size) 26 #[.int .i64 W, .int .i64 H, .slice (some ⟨b, off, none⟩) n c] := Blk.below (by repeat (first | (with_reducible assumption) | (with_reducible exact Blk.new _ _ _) | ((with_reducible refine Blk.new_at _ _ _ ?_); (focus (first | (simp; done) | omega))) | (with_reducible refine Blk.drew ?_) | (with_reducible refine Blk.drewN ?_ _) | (with_reducible refine Blk.alloc ?_ _) | ((with_reducible refine Blk.far ?_ ?_ _); rotate_left; (focus (first | (simp; done) | (simp; omega) | omega))))) hbw1 (by (focus (first | omega | (simp; done) | (simp; omega) | (simp at *; omega))))
  try clear ci fi
  try clear Bi
  have Bi := Bin
  clear Bin
  have ci := Bi.cell
  have fi := Bi.frozen
  have liw1 := Bi.lt
  have Btn : Blk w1 (w.heap.size + 1) 95 #[.int .i64 L, .int .i64 T, .int .i64 TW, .int .i64 TH, .slice (some ⟨bq, oq, none⟩) m d] := Blk.below (by repeat (first | (with_reducible assumption) | (with_reducible exact Blk.new _ _ _) | ((with_reducible refine Blk.new_at _ _ _ ?_); (focus (first | (simp; done) | omega))) | (with_reducible refine Blk.drew ?_) | (with_reducible refine Blk.drewN ?_ _) | (with_reducible refine Blk.alloc ?_ _) | ((with_reducible refine Blk.far ?_ ?_ _); rotate_left; (focus (first | (simp; done) | (simp; omega) | omega))))) hbw1 (by (focus (first | omega | (simp; done) | (simp; omega) | (simp at *; omega))))
  try clear ct ft
  try clear Bt
  have Bt := Btn
  clear Btn
  have ct := Bt.cell
  have ft := Bt.frozen
  have ltw1 := Bt.lt
  have Ban : Blk w1 (w.heap.size + 1 + 1) 26 #[.int .i64 0, .int .i64 0, .slice none 0 0] := Blk.below (by repeat (first | (with_reducible assumption) | (with_reducible exact Blk.new _ _ _) | ((with_reducible refine Blk.new_at _ _ _ ?_); (focus (first | (simp; done) | omega))) | (with_reducible refine Blk.drew ?_) | (with_reducible refine Blk.drewN ?_ _) | (with_reducible refine Blk.alloc ?_ _) | ((with_reducible refine Blk.far ?_ ?_ _); rotate_left; (focus (first | (simp; done) | (simp; omega) | omega))))) hbw1 (by (focus (first | omega | (simp; done) | (simp; omega) | (simp at *; omega))))
  try clear ca fa
  try clear Ba
  have Ba := Ban
  clear Ban
  have ca := Ba.cell
  have fa := Ba.frozen
  have law1 := Ba.lt
  have H0 : LI w (w.heap.size + 1 + 1 + 1 + 1) n (upTo 0 (fun k => .int .u8 (toF W L T TW TH m f p k)) (fun _ => .int .u8 255)) [(w.heap.size, 26, #[.int .i64 W, .int .i64 H, .slice (some ⟨b, off, none⟩) n c]), (w.heap.size + 1, 95, #[.int .i64 L, .int .i64 T, .int .i64 TW, .int .i64 TH, .slice (some ⟨bq, oq, none⟩) m d]), (w.heap.size + 1 + 1, 26, #[.int .i64 0, .int .i64 0, .slice none 0 0]),
      (w1.heap.size, 26, #[.int .i64 W, .int .i64 H, .slice (some ⟨w.heap.size + 1 + 1 + 1 + 1, 0, none⟩) n n])] (w1.alloc (.cells #[.int .i64 W, .int .i64 H, .slice (some ⟨w.heap.size + 1 + 1 + 1 + 1, 0, none⟩) n n] 26)) := by
    simp at hgl
    refine ⟨?_, ?_, by omega, (by repeat (first | (with_reducible assumption) | (with_reducible exact Below.refl _ _) | (with_reducible refine Below.drew ?_) | (with_reducible refine below_drewN ?_ _) | ((with_reducible refine Below.alloc ?_ ?_ _); rotate_left; (focus (first | exact Nat.le_refl _ | omega | (simp; done) | (simp; omega) | (simp at *; omega)))) | ((with_reducible refine Below.setCell ?_ ?_ _); rotate_left; (focus (first | exact Nat.le_refl _ | omega | (simp; done) | (simp; omega) | (simp at *; omega))))))⟩
    · rw [upTo_zero]; exact (by simpa using Hrow.out : w1.rowIs (w.heap.size + 1 + 1 + 1 + 1) 5 n _).alloc _
    · intro x hx
      simp only [List.mem_cons, List.not_mem_nil, or_false] at hx
      rcases hx with rfl | rfl | rfl | rfl
      · exact ⟨Bi.alloc _, (by (focus (first | (simp; done) | (simp; omega) | omega)))⟩
      · exact ⟨Bt.alloc _, (by (focus (first | (simp; done) | (simp; omega) | omega)))⟩
      · exact ⟨Ba.alloc _, (by (focus (first | (simp; done) | (simp; omega) | omega)))⟩
      · exact ⟨Blk.new _ _ _, (by (focus (first | (simp; done) | (simp; omega) | omega)))⟩
  have HGE := Lib.hid (show w.heap.size ≤ w.heap.size + 1 + 1 + 1 + 1 by omega)
  clear Bi Bt Ba ca fa ci fi ct ft Hrow hbw1
  go_wp2
  go_loopg [6] n (fun gk s wr => ∃ k : Nat, k ≤ n ∧ gk = n - k ∧ s = .int .i64 k ∧ LI w (w.heap.size + 1 + 1 + 1 + 1) n (upTo k (fun k => .int .u8 (toF W L T TW TH m f p k)) (fun _ => .int .u8 255)) [(w.heap.size, 26, #[.int .i64 W, .int .i64 H, .slice (some ⟨b, off, none⟩) n c]), (w.heap.size + 1, 95, #[.int .i64 L, .int .i64 T, .int .i64 TW, .int .i64 TH, .slice (some ⟨bq, oq, none⟩) m d]), (w.heap.size + 1 + 1, 26, #[.int .i64 0, .int .i64 0, .slice none 0 0]),
      (w1.heap.size, 26, #[.int .i64 W, .int .i64 H, .slice (some ⟨w.heap.size + 1 + 1 + 1 + 1, 0, none⟩) n n])] wr)
  case atStart => exact ⟨0, by omega, rfl, rfl, H0⟩
  case round =>
    obtain ⟨k, hk, rfl, rfl, hI⟩ := hrel
    clear H0
    have HS := Lib.hid hI
    have Bo := hI.b (b := w1.heap.size) (t := 26) (cs := #[.int .i64 W, .int .i64 H, .slice (some ⟨w.heap.size + 1 + 1 + 1 + 1, 0, none⟩) n n]) (by simp)
    have co := Bo.cell
    by_cases hlt : k < n
    · have Bi := hI.b (b := w.heap.size) (t := 26) (cs := #[.int .i64 W, .int .i64 H, .slice (some ⟨b, off, none⟩) n c]) (by simp)
      have Bt := hI.b (b := w.heap.size + 1) (t := 95) (cs := #[.int .i64 L, .int .i64 T, .int .i64 TW, .int .i64 TH, .slice (some ⟨bq, oq, none⟩) m d]) (by simp)
      have ci := Bi.cell
      have ct := Bt.cell
      have li := Bi.lt
      have lt := Bt.lt
      have lo := Bo.lt
      have ni := (hI.blk (w.heap.size, 26, #[.int .i64 W, .int .i64 H, .slice (some ⟨b, off, none⟩) n c]) (by simp)).2
      have nt := (hI.blk (w.heap.size + 1, 95, #[.int .i64 L, .int .i64 T, .int .i64 TW, .int .i64 TH, .slice (some ⟨bq, oq, none⟩) m d]) (by simp)).2
      have no := (hI.blk (w1.heap.size, 26, #[.int .i64 W, .int .i64 H, .slice (some ⟨w.heap.size + 1 + 1 + 1 + 1, 0, none⟩) n n]) (by simp)).2
      obtain ⟨hx, hy, _, kb, _⟩ := pix_bd HI.out hlt
      have HV0 : Hid (toF W L T TW TH m f p k = if 0 ≤ (k : Int) % W - L ∧ 0 ≤ (k : Int) / W - T ∧ (k : Int) % W - L < TW ∧ (k : Int) / W - T < TH then f ((((k : Int) / W - T) * TW + ((k : Int) % W - L)) % m).toNat else p k) := Lib.hid rfl
      have u1 : (k : Int).tmod W = (k : Int) % W := Int.tmod_eq_emod_of_nonneg (by omega)
      have u2 : (k : Int).tdiv W = (k : Int) / W := Int.tdiv_eq_ediv_of_nonneg (by omega)
      generalize (k : Int) % W = XX at *
      generalize (k : Int) / W = YY at *
      have u3 : ¬ W = 0 := by omega
      have u4 : IntKind.i64.wrap XX = XX := IntWalk.i64_in _ (by omega)
      have u5 : IntKind.i64.wrap YY = YY := IntWalk.i64_in _ (by omega)
      have u6 : IntKind.i64.wrap (XX - L) = XX - L := IntWalk.i64_in _ (by omega)
      have u7 : IntKind.i64.wrap (YY - T) = YY - T := IntWalk.i64_in _ (by omega)
      have xb : -1000 ≤ XX - L ∧ XX - L ≤ 1000 := by omega
      have yb : -1000 ≤ YY - T ∧ YY - T ≤ 1000 := by omega
      have st := hI.row.cell hlt
      have fz := hI.row.frozen k
      have HIb := Lib.hid hI.bel
      have k0 : (0 : Int) ≤ (k : Int) := by omega
      have kn : (k : Int) < (n : Int) := by omega
      have hck : wr.cell? ⟨b, off + k, none⟩ = some (.int .u8 (p k)) := (HIb.out.cell (p := ⟨b, off + k, none⟩) hblt).trans (HCL.out k hlt)
      have CS6 : Hid (∀ X, Below wr.heap.size wr X → X.cell? ⟨w1.heap.size, 2, none⟩ = some (.slice (some ⟨w.heap.size + 1 + 1 + 1 + 1, 0, none⟩) n n) ∧ X.cell? ⟨w.heap.size, 2, none⟩ = some (.slice (some ⟨b, off, none⟩) n c) ∧ X.cell? ⟨b, off + k, none⟩ = some (.int .u8 (p k))) :=
        Lib.hid fun X h => ⟨(Bo.below h lo).cell 2, (Bi.below h li).cell 2, ((HIb.out.trans (h.mono HIb.out.size)).cell (p := ⟨b, off + k, none⟩) hblt).trans (HCL.out k hlt)⟩
      have CT6 : Hid (∀ X v, Below wr.heap.size wr X → (X.setCell ⟨w.heap.size + 1 + 1 + 1 + 1, k, none⟩ v).cell? ⟨w1.heap.size, 2, none⟩ = some (.slice (some ⟨w.heap.size + 1 + 1 + 1 + 1, 0, none⟩) n n) ∧ (X.setCell ⟨w.heap.size + 1 + 1 + 1 + 1, k, none⟩ v).cell? ⟨w.heap.size, 2, none⟩ = some (.slice (some ⟨b, off, none⟩) n c) ∧ (X.setCell ⟨w.heap.size + 1 + 1 + 1 + 1, k, none⟩ v).cell? ⟨b, off + k, none⟩ = some (.int .u8 (p k))) :=
        Lib.hid fun X v h => ⟨((Bo.below h lo).far no v).cell 2, ((Bi.below h li).far ni v).cell 2, (((HIb.out.trans (h.mono HIb.out.size)).setCell HGE.out _).cell (p := ⟨b, off + k, none⟩) hblt).trans (HCL.out k hlt)⟩
      clear hI
      by_cases h0 : 0 ≤ XX - L
      rotate_left
      · have HV : Hid (toF W L T TW TH m f p k = p k) := Lib.hid (by rw [HV0.out, if_neg (by omega)])
        clear Bi Bt Bo ni nt no
        go_wp2_with fail
        go_quiet (fail)
        go_wp2_with fail
        go_region_held3 (fun X => X.cell? ⟨w1.heap.size, 2, none⟩ = some (.slice (some ⟨w.heap.size + 1 + 1 + 1 + 1, 0, none⟩) n n) ∧ X.cell? ⟨w.heap.size, 2, none⟩ = some (.slice (some ⟨b, off, none⟩) n c) ∧ X.cell? ⟨b, off + k, none⟩ = some (.int .u8 (p k)))
          (first | exact CT6.out _ _ (by repeat (first | (with_reducible assumption) | (with_reducible exact Below.refl _ _) | (with_reducible refine Below.drew ?_) | (with_reducible refine below_drewN ?_ _) | ((with_reducible refine Below.alloc ?_ ?_ _); rotate_left; (focus (first | exact Nat.le_refl _ | omega | (simp; done) | (simp; omega) | (simp at *; omega)))) | ((with_reducible refine Below.setCell ?_ ?_ _); rotate_left; (focus (first | exact Nat.le_refl _ | omega | (simp; done) | (simp; omega) | (simp at *; omega)))))) | exact CS6.out _ (by repeat (first | (with_reducible assumption) | (with_reducible exact Below.refl _ _) | (with_reducible refine Below.drew ?_) | (with_reducible refine below_drewN ?_ _) | ((with_reducible refine Below.alloc ?_ ?_ _); rotate_left; (focus (first | exact Nat.le_refl _ | omega | (simp; done) | (simp; omega) | (simp at *; omega)))) | ((with_reducible refine Below.setCell ?_ ?_ _); rotate_left; (focus (first | exact Nat.le_refl _ | omega | (simp; done) | (simp; omega) | (simp at *; omega)))))))
          (fail)
        go_wp2
        go_roundg (n - (k + 1))
        case measure => omega
        case rel => exact ⟨k + 1, by omega, rfl, by go_num, HS.out.step (by repeat (first | (with_reducible assumption) | (with_reducible exact Below.refl _ _) | (with_reducible refine Below.drew ?_) | (with_reducible refine below_drewN ?_ _) | ((with_reducible refine Below.alloc ?_ ?_ _); rotate_left; (focus (first | exact Nat.le_refl _ | omega | (simp; done) | (simp; omega) | (simp at *; omega)))) | ((with_reducible refine Below.setCell ?_ ?_ _); rotate_left; (focus (first | exact Nat.le_refl _ | omega | (simp; done) | (simp; omega) | (simp at *; omega)))))) (by rw [HV.out])⟩
      by_cases h1 : 0 ≤ YY - T
      rotate_left
      · have HV : Hid (toF W L T TW TH m f p k = p k) := Lib.hid (by rw [HV0.out, if_neg (by omega)])
        clear Bi Bt Bo ni nt no
        go_wp2_with fail
        go_quiet (fail)
        go_wp2_with fail
        go_region_held3 (fun X => X.cell? ⟨w1.heap.size, 2, none⟩ = some (.slice (some ⟨w.heap.size + 1 + 1 + 1 + 1, 0, none⟩) n n) ∧ X.cell? ⟨w.heap.size, 2, none⟩ = some (.slice (some ⟨b, off, none⟩) n c) ∧ X.cell? ⟨b, off + k, none⟩ = some (.int .u8 (p k)))
          (first | exact CT6.out _ _ (by repeat (first | (with_reducible assumption) | (with_reducible exact Below.refl _ _) | (with_reducible refine Below.drew ?_) | (with_reducible refine below_drewN ?_ _) | ((with_reducible refine Below.alloc ?_ ?_ _); rotate_left; (focus (first | exact Nat.le_refl _ | omega | (simp; done) | (simp; omega) | (simp at *; omega)))) | ((with_reducible refine Below.setCell ?_ ?_ _); rotate_left; (focus (first | exact Nat.le_refl _ | omega | (simp; done) | (simp; omega) | (simp at *; omega)))))) | exact CS6.out _ (by repeat (first | (with_reducible assumption) | (with_reducible exact Below.refl _ _) | (with_reducible refine Below.drew ?_) | (with_reducible refine below_drewN ?_ _) | ((with_reducible refine Below.alloc ?_ ?_ _); rotate_left; (focus (first | exact Nat.le_refl _ | omega | (simp; done) | (simp; omega) | (simp at *; omega)))) | ((with_reducible refine Below.setCell ?_ ?_ _); rotate_left; (focus (first | exact Nat.le_refl _ | omega | (simp; done) | (simp; omega) | (simp at *; omega)))))))
          (fail)
        go_wp2
        go_roundg (n - (k + 1))
        case measure => omega
        case rel => exact ⟨k + 1, by omega, rfl, by go_num, HS.out.step (by repeat (first | (with_reducible assumption) | (with_reducible exact Below.refl _ _) | (with_reducible refine Below.drew ?_) | (with_reducible refine below_drewN ?_ _) | ((with_reducible refine Below.alloc ?_ ?_ _); rotate_left; (focus (first | exact Nat.le_refl _ | omega | (simp; done) | (simp; omega) | (simp at *; omega)))) | ((with_reducible refine Below.setCell ?_ ?_ _); rotate_left; (focus (first | exact Nat.le_refl _ | omega | (simp; done) | (simp; omega) | (simp at *; omega)))))) (by rw [HV.out])⟩
      by_cases h2 : XX - L < TW
      rotate_left
      · have HV : Hid (toF W L T TW TH m f p k = p k) := Lib.hid (by rw [HV0.out, if_neg (by omega)])
        clear Bi Bt Bo ni nt no
        go_wp2_with fail
        go_quiet (fail)
        go_wp2_with fail
        go_region_held3 (fun X => X.cell? ⟨w1.heap.size, 2, none⟩ = some (.slice (some ⟨w.heap.size + 1 + 1 + 1 + 1, 0, none⟩) n n) ∧ X.cell? ⟨w.heap.size, 2, none⟩ = some (.slice (some ⟨b, off, none⟩) n c) ∧ X.cell? ⟨b, off + k, none⟩ = some (.int .u8 (p k)))
          (first | exact CT6.out _ _ (by repeat (first | (with_reducible assumption) | (with_reducible exact Below.refl _ _) | (with_reducible refine Below.drew ?_) | (with_reducible refine below_drewN ?_ _) | ((with_reducible refine Below.alloc ?_ ?_ _); rotate_left; (focus (first | exact Nat.le_refl _ | omega | (simp; done) | (simp; omega) | (simp at *; omega)))) | ((with_reducible refine Below.setCell ?_ ?_ _); rotate_left; (focus (first | exact Nat.le_refl _ | omega | (simp; done) | (simp; omega) | (simp at *; omega)))))) | exact CS6.out _ (by repeat (first | (with_reducible assumption) | (with_reducible exact Below.refl _ _) | (with_reducible refine Below.drew ?_) | (with_reducible refine below_drewN ?_ _) | ((with_reducible refine Below.alloc ?_ ?_ _); rotate_left; (focus (first | exact Nat.le_refl _ | omega | (simp; done) | (simp; omega) | (simp at *; omega)))) | ((with_reducible refine Below.setCell ?_ ?_ _); rotate_left; (focus (first | exact Nat.le_refl _ | omega | (simp; done) | (simp; omega) | (simp at *; omega)))))))
          (fail)
        go_wp2
        go_roundg (n - (k + 1))
        case measure => omega
        case rel => exact ⟨k + 1, by omega, rfl, by go_num, HS.out.step (by repeat (first | (with_reducible assumption) | (with_reducible exact Below.refl _ _) | (with_reducible refine Below.drew ?_) | (with_reducible refine below_drewN ?_ _) | ((with_reducible refine Below.alloc ?_ ?_ _); rotate_left; (focus (first | exact Nat.le_refl _ | omega | (simp; done) | (simp; omega) | (simp at *; omega)))) | ((with_reducible refine Below.setCell ?_ ?_ _); rotate_left; (focus (first | exact Nat.le_refl _ | omega | (simp; done) | (simp; omega) | (simp at *; omega)))))) (by rw [HV.out])⟩
      by_cases h3 : YY - T < TH
      rotate_left
      · have HV : Hid (toF W L T TW TH m f p k = p k) := Lib.hid (by rw [HV0.out, if_neg (by omega)])
        clear Bi Bt Bo ni nt no
        go_wp2_with fail
        go_quiet (fail)
        go_wp2_with fail
        go_region_held3 (fun X => X.cell? ⟨w1.heap.size, 2, none⟩ = some (.slice (some ⟨w.heap.size + 1 + 1 + 1 + 1, 0, none⟩) n n) ∧ X.cell? ⟨w.heap.size, 2, none⟩ = some (.slice (some ⟨b, off, none⟩) n c) ∧ X.cell? ⟨b, off + k, none⟩ = some (.int .u8 (p k)))
          (first | exact CT6.out _ _ (by repeat (first | (with_reducible assumption) | (with_reducible exact Below.refl _ _) | (with_reducible refine Below.drew ?_) | (with_reducible refine below_drewN ?_ _) | ((with_reducible refine Below.alloc ?_ ?_ _); rotate_left; (focus (first | exact Nat.le_refl _ | omega | (simp; done) | (simp; omega) | (simp at *; omega)))) | ((with_reducible refine Below.setCell ?_ ?_ _); rotate_left; (focus (first | exact Nat.le_refl _ | omega | (simp; done) | (simp; omega) | (simp at *; omega)))))) | exact CS6.out _ (by repeat (first | (with_reducible assumption) | (with_reducible exact Below.refl _ _) | (with_reducible refine Below.drew ?_) | (with_reducible refine below_drewN ?_ _) | ((with_reducible refine Below.alloc ?_ ?_ _); rotate_left; (focus (first | exact Nat.le_refl _ | omega | (simp; done) | (simp; omega) | (simp at *; omega)))) | ((with_reducible refine Below.setCell ?_ ?_ _); rotate_left; (focus (first | exact Nat.le_refl _ | omega | (simp; done) | (simp; omega) | (simp at *; omega)))))))
          (fail)
        go_wp2
        go_roundg (n - (k + 1))
        case measure => omega
        case rel => exact ⟨k + 1, by omega, rfl, by go_num, HS.out.step (by repeat (first | (with_reducible assumption) | (with_reducible exact Below.refl _ _) | (with_reducible refine Below.drew ?_) | (with_reducible refine below_drewN ?_ _) | ((with_reducible refine Below.alloc ?_ ?_ _); rotate_left; (focus (first | exact Nat.le_refl _ | omega | (simp; done) | (simp; omega) | (simp at *; omega)))) | ((with_reducible refine Below.setCell ?_ ?_ _); rotate_left; (focus (first | exact Nat.le_refl _ | omega | (simp; done) | (simp; omega) | (simp at *; omega)))))) (by rw [HV.out])⟩
      have m1 : (0 : Int) < (m : Int) := by omega
      have hmm : ¬ (m : Int) = 0 := by omega
      have hm0 : ¬ m = 0 := by omega
      have z1 : 0 ≤ (YY - T) * TW := Int.mul_nonneg h1 bw.1
      have z2 : (YY - T) * TW ≤ 640 * 640 := Int.mul_le_mul (by omega) (by omega) bw.1 (by omega)
      obtain ⟨j, hj⟩ : ∃ j : Nat, (j : Int) = ((YY - T) * TW + (XX - L)) % m := ⟨(((YY - T) * TW + (XX - L)) % m).toNat, by have := Int.emod_nonneg ((YY - T) * TW + (XX - L)) hmm; omega⟩
      have hjm : j < m := by have := Int.emod_lt_of_pos ((YY - T) * TW + (XX - L)) m1; omega
      have HV : Hid (toF W L T TW TH m f p k = f j) := Lib.hid (by rw [HV0.out, if_pos ⟨h0, h1, h2, h3⟩, ← hj, Int.toNat_natCast])
      have CS8 : Hid (∀ X, Below wr.heap.size wr X → X.cell? ⟨w1.heap.size, 2, none⟩ = some (.slice (some ⟨w.heap.size + 1 + 1 + 1 + 1, 0, none⟩) n n) ∧ X.cell? ⟨w.heap.size + 1, 2, none⟩ = some (.int .i64 TW) ∧ X.cell? ⟨w.heap.size + 1, 4, none⟩ = some (.slice (some ⟨bq, oq, none⟩) m d) ∧ X.cell? ⟨bq, oq + j, none⟩ = some (.int .u8 (f j))) :=
        Lib.hid fun X h => ⟨(Bo.below h lo).cell 2, (Bt.below h lt).cell 2, (Bt.below h lt).cell 4, ((HIb.out.trans (h.mono HIb.out.size)).cell (p := ⟨bq, oq + j, none⟩) hqlt).trans (HCQ.out j hjm)⟩
      have CT8 : Hid (∀ X v, Below wr.heap.size wr X → (X.setCell ⟨w.heap.size + 1 + 1 + 1 + 1, k, none⟩ v).cell? ⟨w1.heap.size, 2, none⟩ = some (.slice (some ⟨w.heap.size + 1 + 1 + 1 + 1, 0, none⟩) n n) ∧ (X.setCell ⟨w.heap.size + 1 + 1 + 1 + 1, k, none⟩ v).cell? ⟨w.heap.size + 1, 2, none⟩ = some (.int .i64 TW) ∧ (X.setCell ⟨w.heap.size + 1 + 1 + 1 + 1, k, none⟩ v).cell? ⟨w.heap.size + 1, 4, none⟩ = some (.slice (some ⟨bq, oq, none⟩) m d) ∧ (X.setCell ⟨w.heap.size + 1 + 1 + 1 + 1, k, none⟩ v).cell? ⟨bq, oq + j, none⟩ = some (.int .u8 (f j))) :=
        Lib.hid fun X v h => ⟨((Bo.below h lo).far no v).cell 2, ((Bt.below h lt).far nt v).cell 2, ((Bt.below h lt).far nt v).cell 4, (((HIb.out.trans (h.mono HIb.out.size)).setCell HGE.out _).cell (p := ⟨bq, oq + j, none⟩) hqlt).trans (HCQ.out j hjm)⟩
      have CU8 : Hid (∀ X v v2, Below wr.heap.size wr X → ((X.setCell ⟨w.heap.size + 1 + 1 + 1 + 1, k, none⟩ v).setCell ⟨w.heap.size + 1 + 1 + 1 + 1, k, none⟩ v2).cell? ⟨w1.heap.size, 2, none⟩ = some (.slice (some ⟨w.heap.size + 1 + 1 + 1 + 1, 0, none⟩) n n) ∧ ((X.setCell ⟨w.heap.size + 1 + 1 + 1 + 1, k, none⟩ v).setCell ⟨w.heap.size + 1 + 1 + 1 + 1, k, none⟩ v2).cell? ⟨w.heap.size + 1, 2, none⟩ = some (.int .i64 TW) ∧ ((X.setCell ⟨w.heap.size + 1 + 1 + 1 + 1, k, none⟩ v).setCell ⟨w.heap.size + 1 + 1 + 1 + 1, k, none⟩ v2).cell? ⟨w.heap.size + 1, 4, none⟩ = some (.slice (some ⟨bq, oq, none⟩) m d) ∧ ((X.setCell ⟨w.heap.size + 1 + 1 + 1 + 1, k, none⟩ v).setCell ⟨w.heap.size + 1 + 1 + 1 + 1, k, none⟩ v2).cell? ⟨bq, oq + j, none⟩ = some (.int .u8 (f j))) :=
        Lib.hid fun X v v2 h => ⟨(((Bo.below h lo).far no v).far no v2).cell 2, (((Bt.below h lt).far nt v).far nt v2).cell 2, (((Bt.below h lt).far nt v).far nt v2).cell 4, ((((HIb.out.trans (h.mono HIb.out.size)).setCell HGE.out _).setCell HGE.out _).cell (p := ⟨bq, oq + j, none⟩) hqlt).trans (HCQ.out j hjm)⟩
      have w1b : ((YY - T) * TW + (XX - L)).tmod m = (j : Int) := by rw [hj]; exact Int.tmod_eq_emod_of_nonneg (by omega)
      have w2b : IntKind.i64.wrap ((YY - T) * TW) = (YY - T) * TW := IntWalk.i64_in _ (by omega)
      have w3b : IntKind.i64.wrap ((YY - T) * TW + (XX - L)) = (YY - T) * TW + (XX - L) := IntWalk.i64_in _ (by omega)
      have w4b : IntKind.i64.wrap (j : Int) = (j : Int) := IntWalk.i64_in _ (by omega)
      have j1 : (0 : Int) ≤ (j : Int) := by omega
      have j2 : (j : Int) < (m : Int) := by omega
      clear Bi Bt Bo ni nt no hj z1 z2
      go_wp2_with fail
      go_quiet (fail)
      go_wp2_with fail
      go_region_held3 (fun X => X.cell? ⟨w1.heap.size, 2, none⟩ = some (.slice (some ⟨w.heap.size + 1 + 1 + 1 + 1, 0, none⟩) n n) ∧ X.cell? ⟨w.heap.size, 2, none⟩ = some (.slice (some ⟨b, off, none⟩) n c) ∧ X.cell? ⟨b, off + k, none⟩ = some (.int .u8 (p k)))
        (first | exact CT6.out _ _ (by repeat (first | (with_reducible assumption) | (with_reducible exact Below.refl _ _) | (with_reducible refine Below.drew ?_) | (with_reducible refine below_drewN ?_ _) | ((with_reducible refine Below.alloc ?_ ?_ _); rotate_left; (focus (first | exact Nat.le_refl _ | omega | (simp; done) | (simp; omega) | (simp at *; omega)))) | ((with_reducible refine Below.setCell ?_ ?_ _); rotate_left; (focus (first | exact Nat.le_refl _ | omega | (simp; done) | (simp; omega) | (simp at *; omega)))))) | exact CS6.out _ (by repeat (first | (with_reducible assumption) | (with_reducible exact Below.refl _ _) | (with_reducible refine Below.drew ?_) | (with_reducible refine below_drewN ?_ _) | ((with_reducible refine Below.alloc ?_ ?_ _); rotate_left; (focus (first | exact Nat.le_refl _ | omega | (simp; done) | (simp; omega) | (simp at *; omega)))) | ((with_reducible refine Below.setCell ?_ ?_ _); rotate_left; (focus (first | exact Nat.le_refl _ | omega | (simp; done) | (simp; omega) | (simp at *; omega)))))))
        (fail)
      go_wp2_with fail
      go_region_held3 (fun X => X.cell? ⟨w1.heap.size, 2, none⟩ = some (.slice (some ⟨w.heap.size + 1 + 1 + 1 + 1, 0, none⟩) n n) ∧ X.cell? ⟨w.heap.size + 1, 2, none⟩ = some (.int .i64 TW) ∧ X.cell? ⟨w.heap.size + 1, 4, none⟩ = some (.slice (some ⟨bq, oq, none⟩) m d) ∧ X.cell? ⟨bq, oq + j, none⟩ = some (.int .u8 (f j)))
        (first | exact CU8.out _ _ _ (by repeat (first | (with_reducible assumption) | (with_reducible exact Below.refl _ _) | (with_reducible refine Below.drew ?_) | (with_reducible refine below_drewN ?_ _) | ((with_reducible refine Below.alloc ?_ ?_ _); rotate_left; (focus (first | exact Nat.le_refl _ | omega | (simp; done) | (simp; omega) | (simp at *; omega)))) | ((with_reducible refine Below.setCell ?_ ?_ _); rotate_left; (focus (first | exact Nat.le_refl _ | omega | (simp; done) | (simp; omega) | (simp at *; omega)))))) | exact CT8.out _ _ (by repeat (first | (with_reducible assumption) | (with_reducible exact Below.refl _ _) | (with_reducible refine Below.drew ?_) | (with_reducible refine below_drewN ?_ _) | ((with_reducible refine Below.alloc ?_ ?_ _); rotate_left; (focus (first | exact Nat.le_refl _ | omega | (simp; done) | (simp; omega) | (simp at *; omega)))) | ((with_reducible refine Below.setCell ?_ ?_ _); rotate_left; (focus (first | exact Nat.le_refl _ | omega | (simp; done) | (simp; omega) | (simp at *; omega)))))))
        (fail)
      go_wp2
      go_roundg (n - (k + 1))
      case measure => omega
      case rel => exact ⟨k + 1, by omega, rfl, by go_num, LI_drew (((HS.out.set (by repeat (first | (with_reducible assumption) | (with_reducible exact Below.refl _ _) | (with_reducible refine Below.drew ?_) | (with_reducible refine below_drewN ?_ _) | ((with_reducible refine Below.alloc ?_ ?_ _); rotate_left; (focus (first | exact Nat.le_refl _ | omega | (simp; done) | (simp; omega) | (simp at *; omega)))) | ((with_reducible refine Below.setCell ?_ ?_ _); rotate_left; (focus (first | exact Nat.le_refl _ | omega | (simp; done) | (simp; omega) | (simp at *; omega)))))) k (.int .u8 (p k))).set (Below.refl _ _) k (.int .u8 (f j))).congr fun i _ => up_two (by rw [HV.out]) i)⟩
    · obtain rfl : k = n := by omega
      have Ba := hI.b (b := w.heap.size + 1 + 1) (t := 26) (cs := #[.int .i64 0, .int .i64 0, .slice none 0 0]) (by simp)
      have ca := Ba.cell
      have fa := Ba.frozen
      have Hrow := Lib.hid (hI.row.congr upTo_all)
      have hbel := hI.bel
      clear hI Bo
      go_wp2
      refine bodyPost_ret (v := (iv W H (some ⟨w.heap.size + 1 + 1 + 1 + 1, 0, none⟩) k k)) (by simp [results, Try.results73, go_sem, *]) rfl ?_
      refine ⟨_, rfl, HGE.out, ?_, (by repeat (first | (with_reducible assumption) | (with_reducible exact Below.refl _ _) | (with_reducible refine Below.drew ?_) | (with_reducible refine below_drewN ?_ _) | ((with_reducible refine Below.alloc ?_ ?_ _); rotate_left; (focus (first | exact Nat.le_refl _ | omega | (simp; done) | (simp; omega) | (simp at *; omega)))) | ((with_reducible refine Below.setCell ?_ ?_ _); rotate_left; (focus (first | exact Nat.le_refl _ | omega | (simp; done) | (simp; omega) | (simp at *; omega))))))⟩
      have := Hrow.out
      exact (by repeat (first | (with_reducible assumption) | (with_reducible refine World.rowIs.drew ?_) | (with_reducible refine rowIs_drewN ?_ _) | (with_reducible refine World.rowIs.alloc ?_ _) | ((with_reducible refine World.rowIs.setOther ?_ ?_ _); rotate_left; (focus (first | (simp; done) | (simp; omega) | omega)))))

end Go.Proofs.Ytpdjiokmafoppaa
