/- The shifts in one piece: distort.ShiftRows and ShiftColumns where there is no fault; plain facts. Conditions: the pixels and the numbers read; no more pixels than the slice's capacity. -/
import Derived.Test.YtpdjiokmafoppaaShiftR
import Derived.Test.YtpdjiokmafoppaaSmearP
namespace Go.Proofs.Ytpdjiokmafoppaa
open Go.RowKit

theorem sh_parts {W H : Int} {n m : Nat} {q : Nat → Int} {s : Int} (h : shF (imgF W H n) (lsF q 0 24 m) s = (0, 0)) : ImgOk W H n ∧ lsF q 0 24 m = (0, 0) ∧ m ≤ 700 ∧ (∀ i, i < m → 0 ≤ q i ∧ q i ≤ 24) ∧ s ≤ 640 := by
  rcases imgF_cases W H n with hi | hi
  · rw [imgF_ok hi] at h
    rcases lsF_cases q 0 24 m with hl | ⟨hl, hm, hb⟩
    · rw [shF_l hl] at h; rw [h] at hl; exact absurd rfl hl
    · rw [hl] at h
      refine ⟨hi, hl, hm, hb, ?_⟩
      apply Int.not_lt.1
      intro g
      rw [shF_s g] at h
      exact absurd h (by decide)
  · rw [shF_i hi] at h; rw [h] at hi; exact absurd rfl hi
theorem sh_cases (W H : Int) (n m : Nat) (q : Nat → Int) (s : Int) : shF (imgF W H n) (lsF q 0 24 m) s = (0, 0) ∨ (shF (imgF W H n) (lsF q 0 24 m) s).1 ≠ 0 := by
  rcases imgF_cases W H n with hi | hi
  · rw [imgF_ok hi]
    rcases lsF_cases q 0 24 m with hl | ⟨hl, hm, hb⟩
    · right; rw [shF_l hl]; exact hl
    · rw [hl]
      by_cases g : 640 < s
      · right; rw [shF_s g]; decide
      · left; exact shF_0 (by omega)
  · right; rw [shF_i hi]; exact hi
theorem sr_nil {W H : Int} {n : Nat} {p q : Nat → Int} (hi : ImgOk W H n) : ∀ k, k < n → srF (W + moF q 0) W H p q 0 k = p k := fun k hk => by
  obtain ⟨hx, hy, e, _, _⟩ := pix_bd hi hk
  have e0 : W + moF q 0 = W := by show W + 0 = W; omega
  rw [e0]
  show px W H p ((k : Int) % W - 0) ((k : Int) / W) = _
  rw [Int.sub_zero, px_in hx hy, e]; rfl
theorem sc_nil {W H : Int} {n : Nat} {p q : Nat → Int} (hi : ImgOk W H n) : ∀ k, k < n → scF W H p q 0 k = p k := fun k hk => by
  obtain ⟨hx, hy, e, _, _⟩ := pix_bd hi hk
  show px W H p ((k : Int) % W) ((k : Int) / W - 0) = _
  rw [Int.sub_zero, px_in hx hy, e]; rfl
theorem ShiftRows_ok (A B : Option Addr) (n c m d N : Nat) (W H : Int) (p q : Nat → Int) (w : World) (hnc : n ≤ c) (hr : RdB w A n p) (hq : RdI w B m q) (hs : shF (imgF W H n) (lsF q 0 24 m) (W + moF q m) = (0, 0)) (hN : (N : Int) = (W + moF q m) * H) :
    Calls Try.prog 62 #[iv W H A n c, .slice B m d] w fun e w' => ∃ g, e = .returned (.tuple #[iv (W + moF q m) H (some ⟨g, 0, none⟩) N N, fv 0 0]) ∧ w.heap.size ≤ g ∧ w'.rowIs g 5 N (fun k => .int .u8 (srF (W + moF q m) W H p q m k)) ∧ Below w.heap.size w w' := by
  obtain ⟨hi, hl, hm, hb, hbig⟩ := sh_parts hs
  rcases Nat.eq_zero_or_pos m with rfl | hpos
  · have e : N = n := by have := hi.len; have e0 : W + moF q 0 = W := by show W + 0 = W; omega
                         rw [e0] at hN; omega
    subst e
    refine (ShiftRows_nil A B N c d W H p q w hi hr).mono ?_
    rintro e w' ⟨g, rfl, h1, h2, h3⟩
    refine ⟨g, ?_, h1, h2.congr fun k hk => by rw [sr_nil hi k hk], h3⟩
    rw [show W + moF q 0 = W from by show W + 0 = W; omega]
  · exact ShiftRows_do A B n c m d N W H (W + moF q m) p q w hi hr hq hl hpos hm hb hnc hbig rfl hN
theorem ShiftColumns_ok (A B : Option Addr) (n c m d N : Nat) (W H : Int) (p q : Nat → Int) (w : World) (hr : RdB w A n p) (hq : RdI w B m q) (hs : shF (imgF W H n) (lsF q 0 24 m) (H + moF q m) = (0, 0)) (hN : (N : Int) = W * (H + moF q m)) :
    Calls Try.prog 63 #[iv W H A n c, .slice B m d] w fun e w' => ∃ g, e = .returned (.tuple #[iv W (H + moF q m) (some ⟨g, 0, none⟩) N N, fv 0 0]) ∧ w.heap.size ≤ g ∧ w'.rowIs g 5 N (fun k => .int .u8 (scF W H p q m k)) ∧ Below w.heap.size w w' := by
  obtain ⟨hi, hl, hm, hb, hbig⟩ := sh_parts hs
  rcases Nat.eq_zero_or_pos m with rfl | hpos
  · have e : N = n := by have := hi.len; have e0 : H + moF q 0 = H := by show H + 0 = H; omega
                         rw [e0] at hN; omega
    subst e
    refine (ShiftColumns_nil A B N c d W H p q w hi hr).mono ?_
    rintro e w' ⟨g, rfl, h1, h2, h3⟩
    refine ⟨g, ?_, h1, h2.congr fun k hk => by rw [sc_nil hi k hk], h3⟩
    rw [show H + moF q 0 = H from by show H + 0 = H; omega]
  · exact ShiftColumns_do A B n c m d N W H (H + moF q m) p q w hi hr hq hl hpos hm hb hbig rfl hN
/-- The size behind a shift. -/
theorem sh_N {W H : Int} (hW : 1 ≤ W ∧ W ≤ 640) (hH : 1 ≤ H ∧ H ≤ 640) : ∃ N : Nat, (N : Int) = W * H := ⟨(W * H).toNat, by have := mul_bd hW hH; omega⟩
theorem sc_byt {W H : Int} {p q : Nat → Int} {m : Nat} (hp : Byt p) : Byt (scF W H p q m) := mk2_byt fun _ _ => px_byt hp _ _
theorem sr_byt {V W H : Int} {p q : Nat → Int} {m : Nat} (hp : Byt p) : Byt (srF V W H p q m) := mk2_byt fun _ _ => px_byt hp _ _
/-- Shifting columns is shifting rows of the image in which rows and columns are exchanged. -/
theorem transposed {V W H : Int} {N m : Nat} {p q : Nat → Int} (ho : ImgOk W V N) : ∀ k, k < N → tuF V W 7 (srF V H W (tuF W H 7 p) q m) k = scF W H p q m k := fun k hk => by
  obtain ⟨hx, hy, _, _, _⟩ := pix_bd ho hk
  show pt V (srF V H W (tuF W H 7 p) q m) ((k : Int) / W) ((k : Int) % W) = px W H p ((k : Int) % W) ((k : Int) / W - elF q m ((k : Int) % W))
  rw [show pt V (srF V H W (tuF W H 7 p) q m) ((k : Int) / W) ((k : Int) % W) = px H W (tuF W H 7 p) ((k : Int) / W - elF q m ((k : Int) % W)) ((k : Int) % W) from pt_mk2 hy hx.1]
  exact px_tu (W := W) (H := H) (t := 7) (by decide)

end Go.Proofs.Ytpdjiokmafoppaa
