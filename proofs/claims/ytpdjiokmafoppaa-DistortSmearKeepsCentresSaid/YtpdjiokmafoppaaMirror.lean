/- slices.Reverse of a part of a row, and distort.mirror. Conditions: the image is valid, its pixels read as bytes. -/
import Derived.Test.YtpdjiokmafoppaaQuarter
namespace Go.Proofs.Ytpdjiokmafoppaa
open Go.RowKit

theorem OnlyRow.set {g : Nat} {w w' : World} (h : OnlyRow g w w') (i : Nat) (v : Value) : OnlyRow g w (w'.setCell ⟨g, i, none⟩ v) :=
  ⟨h.os, h.tape, h.output, by rw [← h.size]; simp, fun k hk => (Below.heap_setCell w' ⟨g, i, none⟩ v k hk).trans (h.block k hk)⟩
theorem OnlyRow.drewN {g : Nat} {w w' : World} (h : OnlyRow g w w') (n : Nat) : OnlyRow g w (w'.drewN n) := ⟨h.os, h.tape, h.output, h.size, h.block⟩
theorem OnlyRow.drew {g : Nat} {w w' : World} (h : OnlyRow g w w') : OnlyRow g w w'.drew := ⟨h.os, h.tape, h.output, h.size, h.block⟩
theorem LI.only {w wr w4 : World} {g N : Nat} {F G : Nat → Value} {bs : List (Nat × TypeId × Array Value)} (h : LI w g N F bs wr) (ho : OnlyRow g wr w4) (hrow : w4.rowIs g 5 N G) : LI w g N G bs w4 :=
  ⟨hrow, fun x hx => ⟨ho.blk (h.blk x hx).1 (h.blk x hx).2, (h.blk x hx).2⟩, h.low, ho.below h.bel h.low⟩

/-- A part of a row of which the first i and the last i are exchanged. -/
def revK (off m i : Nat) (v : Nat → Int) (q : Nat) : Int := if off ≤ q ∧ q < off + m ∧ (q - off < i ∨ m - 1 - (q - off) < i) then v (off + (m - 1 - (q - off))) else v q
/-- The part of a row reversed. -/
def revF (off m : Nat) (v : Nat → Int) (q : Nat) : Int := if off ≤ q ∧ q < off + m then v (off + (m - 1 - (q - off))) else v q
theorem revK_0 {off m : Nat} {v : Nat → Int} : revK off m 0 v = v := by funext q; unfold revK; rw [if_neg (by omega)]
theorem revK_all {off m i : Nat} {v : Nat → Int} (h : m ≤ 2 * i + 1) : revK off m i v = revF off m v := by
  funext q; unfold revK revF
  by_cases h1 : off ≤ q ∧ q < off + m
  · rw [if_pos h1]
    by_cases h2 : q - off < i ∨ m - 1 - (q - off) < i
    · rw [if_pos ⟨h1.1, h1.2, h2⟩]
    · rw [if_neg (by omega), show off + (m - 1 - (q - off)) = q from by omega]
  · rw [if_neg (by omega), if_neg h1]
theorem revK_mid {off m i q : Nat} {v : Nat → Int} (h : i ≤ q) (h2 : q + i + 1 ≤ m) : revK off m i v (off + q) = v (off + q) := by unfold revK; rw [if_neg (by omega)]
theorem revK_step {off m i j : Nat} {v : Nat → Int} (h : i < j) (hj : j + i + 1 = m) (q : Nat) :
    (if q = off + j then (.int .u8 (v (off + i)) : Value) else if q = off + i then .int .u8 (v (off + j)) else .int .u8 (revK off m i v q)) = .int .u8 (revK off m (i + 1) v q) := by
  by_cases h1 : q = off + j
  · rw [if_pos h1]; unfold revK; rw [if_pos (by omega), show off + (m - 1 - (q - off)) = off + i from by omega]
  · rw [if_neg h1]
    by_cases h2 : q = off + i
    · rw [if_pos h2]; unfold revK; rw [if_pos (by omega), show off + (m - 1 - (q - off)) = off + j from by omega]
    · rw [if_neg h2]; unfold revK
      by_cases h3 : off ≤ q ∧ q < off + m ∧ (q - off < i ∨ m - 1 - (q - off) < i)
      · rw [if_pos h3, if_pos (by omega)]
      · rw [if_neg h3, if_neg (by omega)]

set_option maxHeartbeats 1000000 in
set_option maxRecDepth 100000 in
theorem Reverse_ok (g off m c N : Nat) (v : Nat → Int) (w : World) (hrow : w.rowIs g 5 N (fun q => .int .u8 (v q))) (hm : off + m ≤ N) (hN : N ≤ 409600) :
    Calls Try.prog 166 #[.slice (some ⟨g, off, none⟩) m c] w fun e w' => e = .returned (.tuple #[]) ∧ w'.rowIs g 5 N (fun q => .int .u8 (revF off m v q)) ∧ OnlyRow g w w' := by
  have HR := Lib.hid hrow
  clear hrow
  have u0 : IntKind.i64.wrap ((m : Int) - 1) = (m : Int) - 1 := IntWalk.i64_in _ (by omega)
  go_enter Try.func166, Try.ntmps166
  go_wp2
  go_loopg [2, 3] m (fun gk s2 s3 wr => ∃ i : Nat, ∃ J : Int, i ≤ m ∧ 0 ≤ J + 1 + i ∧ J = (m : Int) - 1 - i ∧ gk = m - i ∧ s2 = .int .i64 i ∧ s3 = .int .i64 J ∧ wr.rowIs g 5 N (fun q => .int .u8 (revK off m i v q)) ∧ OnlyRow g w wr)
  case atStart => exact ⟨0, (m : Int) - 1, by omega, by omega, by omega, rfl, rfl, rfl, by rw [revK_0]; exact HR.out, OnlyRow.refl _ _⟩
  case round =>
    obtain ⟨i, J, hi, hJ0, hJ, rfl, rfl, rfl, hr, ho⟩ := hrel
    by_cases hlt : (i : Int) < J
    · obtain ⟨j, rfl⟩ : ∃ j : Nat, (j : Int) = J := ⟨J.toNat, by omega⟩
      have hij : i < j := by omega
      have hjm : j + i + 1 = m := by omega
      have ci := hr.cell (i := off + i) (by omega)
      have cj := hr.cell (i := off + j) (by omega)
      rw [revK_mid (by omega) (by omega)] at ci cj
      have fi := hr.frozen (off + i)
      have fj := hr.frozen (off + j)
      have i1 : (0 : Int) ≤ (i : Int) := by omega
      have i2 : (i : Int) < (m : Int) := by omega
      have j1 : (0 : Int) ≤ (j : Int) := by omega
      have j2 : (j : Int) < (m : Int) := by omega
      have w1 : IntKind.i64.wrap ((i : Int) + 1) = (i : Int) + 1 := IntWalk.i64_in _ (by omega)
      have w2 : IntKind.i64.wrap ((j : Int) - 1) = (j : Int) - 1 := IntWalk.i64_in _ (by omega)
      have ST := Lib.hid (revK_step (off := off) (m := m) (v := v) hij hjm)
      have HO := Lib.hid ho
      have HH := Lib.hid hr
      clear hr ho hJ HR u0
      go_wp2
      go_region
      go_wp2
      go_roundg (m - (i + 1))
      case measure => omega
      case rel =>
        refine ⟨i + 1, (j : Int) - 1, by omega, by omega, by omega, rfl, by go_num, rfl, ?_, ?_⟩
        · refine (((rowIs_drewN HH.out _).set (off + i) (.int .u8 (v (off + j)))).set (off + j) (.int .u8 (v (off + i)))).congr fun q _ => ?_
          exact ST.out q
        · exact ((HO.out.drewN _).set _ _).set _ _
    · have hr' := hr
      rw [revK_all (by omega)] at hr'
      have HH := Lib.hid hr'
      clear hr hr' HR
      go_wp2
      go_end0
      exact ⟨rfl, HH.out, ho⟩


/-- The mirrored image. -/
def miF (W : Int) (p : Nat → Int) : Nat → Int := mk2 W (fun x y => pt W p (W - 1 - x) y)
/-- The image of which the first k rows (a pixels) are mirrored. -/
def miK (W : Int) (p : Nat → Int) (a : Nat) (q : Nat) : Int := if q < a then miF W p q else p q
theorem miK_step {W : Int} {p : Nat → Int} {k a m : Nat} (ha : (a : Int) = k * W) (hm : (m : Int) = W) (hW : 1 ≤ W) (q : Nat) : revF a m (miK W p a) q = miK W p (a + m) q := by
  unfold revF
  by_cases h : a ≤ q ∧ q < a + m
  · rw [if_pos h]
    unfold miK
    rw [if_neg (by omega), if_pos h.2]
    have hq : (q : Int) = (k : Int) * W + ((q : Int) - a) := by omega
    obtain ⟨s1, s2⟩ := split_at (W := W) (x := (q : Int) - a) (y := (k : Int)) ⟨by omega, by omega⟩ (by omega)
    show _ = p ((q : Int) / W * W + (W - 1 - (q : Int) % W)).toNat
    rw [hq, s1, s2, ← ha]
    congr 1
    omega
  · rw [if_neg h]
    unfold miK
    by_cases h2 : q < a
    · rw [if_pos h2, if_pos (by omega)]
    · rw [if_neg h2, if_neg (by omega)]

set_option maxHeartbeats 2000000 in
set_option maxRecDepth 100000 in
theorem mirror_ok (A : Option Addr) (n c : Nat) (W H : Int) (p : Nat → Int) (w : World) (hi : ImgOk W H n) (hr : RdB w A n p) :
    Calls Try.prog 116 #[iv W H A n c] w fun e w' => ∃ g, e = .returned (iv W H (some ⟨g, 0, none⟩) n n) ∧ w.heap.size ≤ g ∧ w'.rowIs g 5 n (fun k => .int .u8 (miF W p k)) ∧ Below w.heap.size w w' := by
  have HR := rd_later hr
  have HI := Lib.hid hi
  have hnb : n ≤ 409600 := by have := mul_bd ⟨hi.w1, hi.w2⟩ ⟨hi.h1, hi.h2⟩; have := hi.len; omega
  obtain ⟨m, hm⟩ : ∃ m : Nat, (m : Int) = W := ⟨W.toNat, by have := hi.w1; omega⟩
  obtain ⟨hh, hhh⟩ : ∃ hh : Nat, (hh : Int) = H := ⟨H.toNat, by have := hi.h1; omega⟩
  have hW := hi.w1
  have hW2 := hi.w2
  have hH2 := hi.h2
  have hH1 := hi.h1
  clear hr hi
  go_enter Try.func116, Try.ntmps116
  go_wp2_with fail
  refine (copyOf_any A n c W H p (by omega) _ (HR.out _ (by repeat (first | (with_reducible assumption) | (with_reducible exact Below.refl _ _) | (with_reducible refine Below.drew ?_) | (with_reducible refine below_drewN ?_ _) | ((with_reducible refine Below.alloc ?_ ?_ _); rotate_left; (focus (first | exact Nat.le_refl _ | omega | (simp; done) | (simp; omega) | (simp at *; omega)))) | ((with_reducible refine Below.setCell ?_ ?_ _); rotate_left; (focus (first | exact Nat.le_refl _ | omega | (simp; done) | (simp; omega) | (simp at *; omega)))))))).mono ?_
  rintro e w1 ⟨rfl, hrow, hbw1⟩
  have Hrow := Lib.hid hrow
  have hgl := hrow.lt
  clear hrow
  have hzw1 := hbw1.size
  try simp at hzw1
  have kw1 : Below w.heap.size w w1 := Below.trans (by repeat (first | (with_reducible assumption) | (with_reducible exact Below.refl _ _) | (with_reducible refine Below.drew ?_) | (with_reducible refine below_drewN ?_ _) | ((with_reducible refine Below.alloc ?_ ?_ _); rotate_left; (focus (first | exact Nat.le_refl _ | omega | (simp; done) | (simp; omega) | (simp at *; omega)))) | ((with_reducible refine Below.setCell ?_ ?_ _); rotate_left; (focus (first | exact Nat.le_refl _ | omega | (simp; done) | (simp; omega) | (simp at *; omega)))))) (hbw1.mono (by (focus (first | exact Nat.le_refl _ | omega | (simp; done) | (simp; omega) | (simp at *; omega)))))
  have kzw1 := kw1.size
  have Bin : Blk w1 (w.heap.size) 26 #[.int .i64 W, .int .i64 H, .slice A n c] := Blk.below (by repeat (first | (with_reducible assumption) | (with_reducible exact Blk.new _ _ _) | ((with_reducible refine Blk.new_at _ _ _ ?_); (focus (first | (simp; done) | omega))) | (with_reducible refine Blk.drew ?_) | (with_reducible refine Blk.drewN ?_ _) | (with_reducible refine Blk.alloc ?_ _) | ((with_reducible refine Blk.far ?_ ?_ _); rotate_left; (focus (first | (simp; done) | (simp; omega) | omega))))) hbw1 (by (focus (first | omega | (simp; done) | (simp; omega) | (simp at *; omega))))
  try clear ci fi
  try clear Bi
  have Bi := Bin
  clear Bin
  have ci := Bi.cell
  have fi := Bi.frozen
  have liw1 := Bi.lt
  have Ban : Blk w1 (w.heap.size + 1) 26 #[.int .i64 0, .int .i64 0, .slice none 0 0] := Blk.below (by repeat (first | (with_reducible assumption) | (with_reducible exact Blk.new _ _ _) | ((with_reducible refine Blk.new_at _ _ _ ?_); (focus (first | (simp; done) | omega))) | (with_reducible refine Blk.drew ?_) | (with_reducible refine Blk.drewN ?_ _) | (with_reducible refine Blk.alloc ?_ _) | ((with_reducible refine Blk.far ?_ ?_ _); rotate_left; (focus (first | (simp; done) | (simp; omega) | omega))))) hbw1 (by (focus (first | omega | (simp; done) | (simp; omega) | (simp at *; omega))))
  try clear ca fa
  try clear Ba
  have Ba := Ban
  clear Ban
  have ca := Ba.cell
  have fa := Ba.frozen
  have law1 := Ba.lt
  clear fi ca fa
  have H0 : LI w (w.heap.size + 1 + 1 + 2) n (fun q => .int .u8 (miK W p 0 q)) [(w.heap.size, 26, #[.int .i64 W, .int .i64 H, .slice A n c]), (w.heap.size + 1, 26, #[.int .i64 0, .int .i64 0, .slice none 0 0]),
      (w1.heap.size, 26, #[.int .i64 W, .int .i64 H, .slice (some ⟨w.heap.size + 1 + 1 + 2, 0, none⟩) n n])] (w1.alloc (.cells #[.int .i64 W, .int .i64 H, .slice (some ⟨w.heap.size + 1 + 1 + 2, 0, none⟩) n n] 26)) := by
    simp at hgl
    refine ⟨?_, ?_, by omega, (by repeat (first | (with_reducible assumption) | (with_reducible exact Below.refl _ _) | (with_reducible refine Below.drew ?_) | (with_reducible refine below_drewN ?_ _) | ((with_reducible refine Below.alloc ?_ ?_ _); rotate_left; (focus (first | exact Nat.le_refl _ | omega | (simp; done) | (simp; omega) | (simp at *; omega)))) | ((with_reducible refine Below.setCell ?_ ?_ _); rotate_left; (focus (first | exact Nat.le_refl _ | omega | (simp; done) | (simp; omega) | (simp at *; omega))))))⟩
    · refine ((by simpa using Hrow.out : w1.rowIs (w.heap.size + 1 + 1 + 2) 5 n _).alloc _).congr fun j hj => ?_
      unfold miK
      rw [if_neg (by omega)]
    · intro x hx
      simp only [List.mem_cons, List.not_mem_nil, or_false] at hx
      rcases hx with rfl | rfl | rfl
      · exact ⟨Bi.alloc _, (by (focus (first | (simp; done) | (simp; omega) | omega)))⟩
      · exact ⟨Ba.alloc _, (by (focus (first | (simp; done) | (simp; omega) | omega)))⟩
      · exact ⟨Blk.new _ _ _, (by (focus (first | (simp; done) | (simp; omega) | omega)))⟩
  clear Bi Ba Hrow hbw1
  go_wp2
  clear ci
  go_loopg [9] hh (fun gk s9 wr => ∃ k a : Nat, k ≤ hh ∧ (a : Int) = k * W ∧ gk = hh - k ∧ s9 = .int .i64 k ∧ LI w (w.heap.size + 1 + 1 + 2) n (fun q => .int .u8 (miK W p a q)) [(w.heap.size, 26, #[.int .i64 W, .int .i64 H, .slice A n c]), (w.heap.size + 1, 26, #[.int .i64 0, .int .i64 0, .slice none 0 0]),
      (w1.heap.size, 26, #[.int .i64 W, .int .i64 H, .slice (some ⟨w.heap.size + 1 + 1 + 2, 0, none⟩) n n])] wr)
  case atStart => exact ⟨0, 0, by omega, by simp, rfl, rfl, H0⟩
  case round =>
    obtain ⟨k, a, hk, ha, rfl, rfl, hI⟩ := hrel
    clear H0
    have HS := Lib.hid hI
    have Bo := hI.b (b := w1.heap.size) (t := 26) (cs := #[.int .i64 W, .int .i64 H, .slice (some ⟨w.heap.size + 1 + 1 + 2, 0, none⟩) n n]) (by simp)
    have co := Bo.cell
    clear Bo
    by_cases hlt : k < hh
    · have Bi := hI.b (b := w.heap.size) (t := 26) (cs := #[.int .i64 W, .int .i64 H, .slice A n c]) (by simp)
      have ci := Bi.cell
      have Bi2 := Bi
      clear Bi2
      have hb : ((a + m : Nat) : Int) = ((k : Int) + 1) * W := by rw [Int.add_mul, ← ha, Int.one_mul]; omega
      have hbn : a + m ≤ n := by
        have h1 : ((k : Int) + 1) * W ≤ H * W := Int.mul_le_mul_of_nonneg_right (by omega) (by omega)
        have := HI.out.len
        rw [Int.mul_comm H W] at h1
        omega
      have HB := Lib.hid hb
      have HA := Lib.hid ha
      obtain ⟨b, hbd⟩ : ∃ b : Nat, b = a + m := ⟨_, rfl⟩
      have hb' : (b : Int) = ((k : Int) + 1) * W := by rw [hbd]; exact hb
      have u1 : IntKind.i64.wrap ((k : Int) * W) = (a : Int) := by rw [← ha]; exact IntWalk.i64_in _ (by omega)
      have u2 : IntKind.i64.wrap ((k : Int) + 1) = (k : Int) + 1 := IntWalk.i64_in _ (by omega)
      have u3 : IntKind.i64.wrap (((k : Int) + 1) * W) = (b : Int) := by rw [← hb']; exact IntWalk.i64_in _ (by omega)
      have hk8 : (k : Int) < H := by omega
      have q1 : (0 : Int) ≤ (a : Int) := by omega
      have q2 : (a : Int) ≤ (b : Int) := by omega
      have q3 : (b : Int) ≤ (n : Int) := by omega
      have q4 : (a : Int) < (n : Int) := by omega
      have q5 : a < n := by omega
      have q6 : ¬ n = a := by omega
      have q7 : ¬ n - a = 0 := by omega
      have HBD : Hid (b - a = m) := Lib.hid (by omega)
      have HM := Lib.hid hm
      clear hI Bi hb ha hb' hbd hm hbn
      go_wp2_with fail
      refine (Reverse_ok (w.heap.size + 1 + 1 + 2) a _ _ n (miK W p a) wr HS.out.row (by have := HBD.out; omega) hnb).mono ?_
      rintro e w4 ⟨rfl, hrow, hon⟩
      have HS4 := Lib.hid (HS.out.only hon hrow)
      have hz4 := hon.size
      clear hrow hon
      go_wp2
      go_roundg (hh - (k + 1))
      case measure => omega
      case rel =>
        refine ⟨k + 1, a + m, by omega, by rw [HB.out, Int.natCast_add]; rfl, rfl, by go_num, HS4.out.congr fun q _ => ?_⟩
        rw [HBD.out, miK_step HA.out HM.out hW]
    · obtain rfl : k = hh := by omega
      have Ba := hI.b (b := w.heap.size + 1) (t := 26) (cs := #[.int .i64 0, .int .i64 0, .slice none 0 0]) (by simp)
      have Bi := hI.b (b := w.heap.size) (t := 26) (cs := #[.int .i64 W, .int .i64 H, .slice A n c]) (by simp)
      have ci := Bi.cell
      have ca := Ba.cell
      have fa := Ba.frozen
      have Hrow := Lib.hid (hI.row.congr (g := fun k => .int .u8 (miF W p k)) (fun q hq => by
        have : q < a := by have := HI.out.len; rw [Int.mul_comm] at this; rw [← hhh] at this; omega
        show Value.int .u8 (miK W p a q) = _
        unfold miK; rw [if_pos this]))
      have hbel := hI.bel
      clear hI ha
      go_wp2
      refine bodyPost_ret (v := (iv W H (some ⟨w.heap.size + 1 + 1 + 2, 0, none⟩) n n)) (by simp [results, Try.results116, go_sem, *]) rfl ?_
      refine ⟨_, rfl, by omega, ?_, (by repeat (first | (with_reducible assumption) | (with_reducible exact Below.refl _ _) | (with_reducible refine Below.drew ?_) | (with_reducible refine below_drewN ?_ _) | ((with_reducible refine Below.alloc ?_ ?_ _); rotate_left; (focus (first | exact Nat.le_refl _ | omega | (simp; done) | (simp; omega) | (simp at *; omega)))) | ((with_reducible refine Below.setCell ?_ ?_ _); rotate_left; (focus (first | exact Nat.le_refl _ | omega | (simp; done) | (simp; omega) | (simp at *; omega))))))⟩
      have := Hrow.out
      exact (by repeat (first | (with_reducible assumption) | (with_reducible refine World.rowIs.drew ?_) | (with_reducible refine rowIs_drewN ?_ _) | (with_reducible refine World.rowIs.alloc ?_ _) | ((with_reducible refine World.rowIs.setOther ?_ ?_ _); rotate_left; (focus (first | (simp; done) | (simp; omega) | omega)))))

end Go.Proofs.Ytpdjiokmafoppaa
