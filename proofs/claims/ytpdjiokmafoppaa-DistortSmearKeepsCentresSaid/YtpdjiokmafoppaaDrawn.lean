/- The reference's drawing (ref6.Drawn, ref5.Shades): the same pixels dpx. Conditions: as of Draw_ok. -/
import Derived.Test.YtpdjiokmafoppaaDrawP
namespace Go.Proofs.Ytpdjiokmafoppaa
open Go.RowKit

theorem Try.info3 : (Try.prog.info? 3).map (fun i => (i.zero, i.size, i.bytes)) = some (some (.int .i64 0), 1, 8) := by kernel_rfl

set_option maxHeartbeats 1000000 in
theorem Shades_any (L : Int) (hL : L = 2 ∨ L = 4) (w : World) : Calls Try.prog 91 #[.int .i64 L] w fun e w' => e = .returned (.slice (some ⟨w.heap.size, 0, none⟩) L.toNat L.toNat) ∧ w'.rowIs w.heap.size 3 L.toNat (fun i => .int .i64 (shadeOf L i)) ∧ Below w.heap.size w w' := by
  rcases hL with rfl | rfl
  · go_enter Try.func91, Try.ntmps91
    go_wp2
    go_ret
    refine ⟨rfl, ?_, (by repeat (first | (with_reducible assumption) | (with_reducible exact Below.refl _ _) | (with_reducible refine Below.drew ?_) | (with_reducible refine below_drewN ?_ _) | ((with_reducible refine Below.alloc ?_ ?_ _); rotate_left; (focus (first | exact Nat.le_refl _ | omega | (simp; done) | (simp; omega) | (simp at *; omega)))) | ((with_reducible refine Below.setCell ?_ ?_ _); rotate_left; (focus (first | exact Nat.le_refl _ | omega | (simp; done) | (simp; omega) | (simp at *; omega))))))⟩
    refine (World.rowIs_alloc w #[.int .i64 255, .int .i64 0] 3 (fun i => .int .i64 (shadeOf 2 i)) (fun i hi => ?_))
    have : i = 0 ∨ i = 1 := by simp at hi; omega
    rcases this with rfl | rfl <;> rfl
  · go_enter Try.func91, Try.ntmps91
    go_wp2
    go_ret
    refine ⟨rfl, ?_, (by repeat (first | (with_reducible assumption) | (with_reducible exact Below.refl _ _) | (with_reducible refine Below.drew ?_) | (with_reducible refine below_drewN ?_ _) | ((with_reducible refine Below.alloc ?_ ?_ _); rotate_left; (focus (first | exact Nat.le_refl _ | omega | (simp; done) | (simp; omega) | (simp at *; omega)))) | ((with_reducible refine Below.setCell ?_ ?_ _); rotate_left; (focus (first | exact Nat.le_refl _ | omega | (simp; done) | (simp; omega) | (simp at *; omega))))))⟩
    refine (World.rowIs_alloc w #[.int .i64 255, .int .i64 170, .int .i64 85, .int .i64 0] 3 (fun i => .int .i64 (shadeOf 4 i)) (fun i hi => ?_))
    have : i = 0 ∨ i = 1 ∨ i = 2 ∨ i = 3 := by simp at hi; omega
    rcases this with rfl | rfl | rfl | rfl <;> rfl

/-- What holds while the reference draws: the first k pixels are there. -/
def RInv (w : World) (g Bo Bs : Nat) (L R s l t : Int) (A : Option Addr) (n c N : Nat) (p : Nat → Int) (wr : World) (k : Nat) : Prop :=
  wr.rowIs g 5 N (upTo k (fun k => .int .u8 (dpx L R s l t (58 * s + 2 * l) p k)) (fun _ => .int .u8 255)) ∧
  Blk wr w.heap.size 24 #[.int .i64 L, .int .i64 R, .int .i64 58, .slice A n c] ∧ Blk wr (w.heap.size + 1) 26 #[.int .i64 0, .int .i64 0, .slice none 0 0] ∧
  Blk wr Bo 26 #[.int .i64 (58 * s + 2 * l), .int .i64 (R * s + 2 * t), .slice (some ⟨g, 0, none⟩) N N] ∧ wr.rowIs Bs 3 L.toNat (fun i => .int .i64 (shadeOf L i)) ∧
  g < Bo ∧ Bo < Bs ∧ w.heap.size + 1 < g ∧ Below w.heap.size w wr

theorem RInv.step {w : World} {g Bo Bs : Nat} {L R s l t : Int} {A : Option Addr} {n c N : Nat} {p : Nat → Int} {wr : World} {k : Nat} {v : Int} (h : RInv w g Bo Bs L R s l t A n c N p wr k)
    (hv : v = dpx L R s l t (58 * s + 2 * l) p k) : RInv w g Bo Bs L R s l t A n c N p (wr.setCell ⟨g, k, none⟩ (.int .u8 v)) (k + 1) := by
  obtain ⟨hrow, Bg, Ba, Bo', Bs', h1, h2, h3, hbel⟩ := h
  exact ⟨row_step hrow (by rw [hv]), Bg.far (by (focus (first | (simp; done) | (simp; omega) | omega))) _, Ba.far (by (focus (first | (simp; done) | (simp; omega) | omega))) _, Bo'.far (by (focus (first | (simp; done) | (simp; omega) | omega))) _, Bs'.setOther (by (focus (first | (simp; done) | (simp; omega) | omega))) _, h1, h2, h3, hbel.setCell (by (focus (first | exact Nat.le_refl _ | omega | (simp; done) | (simp; omega) | (simp at *; omega)))) _⟩
theorem RInv.drew {w : World} {g Bo Bs : Nat} {L R s l t : Int} {A : Option Addr} {n c N : Nat} {p : Nat → Int} {wr : World} {k : Nat} (h : RInv w g Bo Bs L R s l t A n c N p wr k) : RInv w g Bo Bs L R s l t A n c N p wr.drew k := by
  obtain ⟨hrow, Bg, Ba, Bo', Bs', h1, h2, h3, hbel⟩ := h
  exact ⟨hrow, Bg, Ba, Bo', Bs', h1, h2, h3, hbel.drew⟩
theorem RInv.drewN {w : World} {g Bo Bs : Nat} {L R s l t : Int} {A : Option Addr} {n c N : Nat} {p : Nat → Int} {wr : World} {k : Nat} (h : RInv w g Bo Bs L R s l t A n c N p wr k) (m : Nat) : RInv w g Bo Bs L R s l t A n c N p (wr.drewN m) k := by
  obtain ⟨hrow, Bg, Ba, Bo', Bs', h1, h2, h3, hbel⟩ := h
  exact ⟨hrow, Bg, Ba, Bo', Bs', h1, h2, h3, below_drewN hbel m⟩
/-- White pixels are there already. -/
theorem RInv.white {w : World} {g Bo Bs : Nat} {L R s l t : Int} {A : Option Addr} {n c N : Nat} {p : Nat → Int} {wr : World} {k : Nat} (h : RInv w g Bo Bs L R s l t A n c N p wr k)
    (hv : dpx L R s l t (58 * s + 2 * l) p k = 255) : RInv w g Bo Bs L R s l t A n c N p wr (k + 1) := by
  refine ⟨?_, h.2⟩
  rw [← upTo_gap (a := k) (b := k + 1) (by omega) (fun j h1 h2 => by obtain rfl : j = k := by omega
                                                                     show Value.int .u8 _ = _; rw [hv])]
  exact h.1

set_option maxHeartbeats 2000000 in
set_option maxRecDepth 100000 in
theorem Drawn_ok (A : Option Addr) (n c N : Nat) (L R C s l t : Int) (p : Nat → Int) (w : World) (hg : GridOk L R C n p) (hp : Byt p) (hr : RdB w A n p) (hs : 3 ≤ s ∧ s ≤ 6) (hl : 2 ≤ l ∧ l ≤ 40) (ht : 2 ≤ t ∧ t ≤ 40)
    (hN : (N : Int) = (58 * s + 2 * l) * (R * s + 2 * t)) :
    Calls Try.prog 31 #[gv L R C A n c, .int .i64 s, .int .i64 l, .int .i64 t] w fun e w' => ∃ g, e = .returned (iv (58 * s + 2 * l) (R * s + 2 * t) (some ⟨g, 0, none⟩) N N) ∧ w.heap.size ≤ g ∧
      w'.rowIs g 5 N (fun k => .int .u8 (dpx L R s l t (58 * s + 2 * l) p k)) ∧ Below w.heap.size w w' := by
  obtain ⟨lv, rows, rfl, len, low⟩ := hg
  have hR : 53 ≤ R ∧ R ≤ 85 := by have := rowsOf_lv lv; omega
  obtain ⟨d1, d2, d3, d4, d5, d6⟩ := draw_bd hs hl ht hR
  have hNb : N ≤ 1073741824 := by omega
  have HR := rd_later hr
  have HN := Lib.hid hN
  have Hlow := Lib.hid low
  have Hlen := Lib.hid len
  have HL := Lib.hid lv
  clear hr hN low len rows lv
  obtain ⟨b, off, rfl, hcA⟩ := HR.out w (Below.refl _ _) (by have := Hlen.out; omega)
  have hbA := World.block_lt_of_cell? _ _ (hcA 0 (by have := Hlen.out; omega))
  have HcA := Lib.hid hcA
  clear hcA
  go_enter Try.func31, Try.ntmps31
  go_wp2_with fail
  refine (White_any _ _ N HN.out hNb _).mono ?_
  rintro e w1 ⟨rfl, hrow1, hbw1⟩
  have lr1 := hrow1.lt
  simp at lr1
  have Hrow1 := Lib.hid hrow1
  clear hrow1
  have hzw1 := hbw1.size
  try simp at hzw1
  have kw1 : Below w.heap.size w w1 := Below.trans (by repeat (first | (with_reducible assumption) | (with_reducible exact Below.refl _ _) | (with_reducible refine Below.drew ?_) | (with_reducible refine below_drewN ?_ _) | ((with_reducible refine Below.alloc ?_ ?_ _); rotate_left; (focus (first | exact Nat.le_refl _ | omega | (simp; done) | (simp; omega) | (simp at *; omega)))) | ((with_reducible refine Below.setCell ?_ ?_ _); rotate_left; (focus (first | exact Nat.le_refl _ | omega | (simp; done) | (simp; omega) | (simp at *; omega)))))) (hbw1.mono (by (focus (first | exact Nat.le_refl _ | omega | (simp; done) | (simp; omega) | (simp at *; omega)))))
  have kzw1 := kw1.size
  have Bgn : Blk w1 (w.heap.size) 24 #[.int .i64 L, .int .i64 R, .int .i64 58, .slice (some ⟨b, off, none⟩) n c] := Blk.below (by repeat (first | (with_reducible assumption) | (with_reducible exact Blk.new _ _ _) | ((with_reducible refine Blk.new_at _ _ _ ?_); (focus (first | (simp; done) | omega))) | (with_reducible refine Blk.drew ?_) | (with_reducible refine Blk.drewN ?_ _) | (with_reducible refine Blk.alloc ?_ _) | ((with_reducible refine Blk.far ?_ ?_ _); rotate_left; (focus (first | (simp; done) | (simp; omega) | omega))))) hbw1 (by (focus (first | omega | (simp; done) | (simp; omega) | (simp at *; omega))))
  try clear cg fg
  try clear Bg
  have Bg := Bgn
  clear Bgn
  have cg := Bg.cell
  have fg := Bg.frozen
  have lgw1 := Bg.lt
  have Ban : Blk w1 (w.heap.size + 1) 26 #[.int .i64 0, .int .i64 0, .slice none 0 0] := Blk.below (by repeat (first | (with_reducible assumption) | (with_reducible exact Blk.new _ _ _) | ((with_reducible refine Blk.new_at _ _ _ ?_); (focus (first | (simp; done) | omega))) | (with_reducible refine Blk.drew ?_) | (with_reducible refine Blk.drewN ?_ _) | (with_reducible refine Blk.alloc ?_ _) | ((with_reducible refine Blk.far ?_ ?_ _); rotate_left; (focus (first | (simp; done) | (simp; omega) | omega))))) hbw1 (by (focus (first | omega | (simp; done) | (simp; omega) | (simp at *; omega))))
  try clear ca fa
  try clear Ba
  have Ba := Ban
  clear Ban
  have ca := Ba.cell
  have fa := Ba.frozen
  have law1 := Ba.lt
  clear hbw1
  go_wp2_with fail
  refine (Shades_any L HL.out _).mono ?_
  rintro e w2 ⟨rfl, hrow2, hbw2⟩
  have Hrow2 := Lib.hid hrow2
  clear hrow2
  have hzw2 := hbw2.size
  try simp at hzw2
  have kw2 : Below w.heap.size w w2 := Below.trans (by repeat (first | (with_reducible assumption) | (with_reducible exact Below.refl _ _) | (with_reducible refine Below.drew ?_) | (with_reducible refine below_drewN ?_ _) | ((with_reducible refine Below.alloc ?_ ?_ _); rotate_left; (focus (first | exact Nat.le_refl _ | omega | (simp; done) | (simp; omega) | (simp at *; omega)))) | ((with_reducible refine Below.setCell ?_ ?_ _); rotate_left; (focus (first | exact Nat.le_refl _ | omega | (simp; done) | (simp; omega) | (simp at *; omega)))))) (hbw2.mono (by (focus (first | exact Nat.le_refl _ | omega | (simp; done) | (simp; omega) | (simp at *; omega)))))
  have kzw2 := kw2.size
  have Bgn : Blk w2 (w.heap.size) 24 #[.int .i64 L, .int .i64 R, .int .i64 58, .slice (some ⟨b, off, none⟩) n c] := Blk.below (by repeat (first | (with_reducible assumption) | (with_reducible exact Blk.new _ _ _) | ((with_reducible refine Blk.new_at _ _ _ ?_); (focus (first | (simp; done) | omega))) | (with_reducible refine Blk.drew ?_) | (with_reducible refine Blk.drewN ?_ _) | (with_reducible refine Blk.alloc ?_ _) | ((with_reducible refine Blk.far ?_ ?_ _); rotate_left; (focus (first | (simp; done) | (simp; omega) | omega))))) hbw2 (by (focus (first | omega | (simp; done) | (simp; omega) | (simp at *; omega))))
  try clear cg fg
  try clear Bg
  have Bg := Bgn
  clear Bgn
  have cg := Bg.cell
  have fg := Bg.frozen
  have lgw2 := Bg.lt
  have Ban : Blk w2 (w.heap.size + 1) 26 #[.int .i64 0, .int .i64 0, .slice none 0 0] := Blk.below (by repeat (first | (with_reducible assumption) | (with_reducible exact Blk.new _ _ _) | ((with_reducible refine Blk.new_at _ _ _ ?_); (focus (first | (simp; done) | omega))) | (with_reducible refine Blk.drew ?_) | (with_reducible refine Blk.drewN ?_ _) | (with_reducible refine Blk.alloc ?_ _) | ((with_reducible refine Blk.far ?_ ?_ _); rotate_left; (focus (first | (simp; done) | (simp; omega) | omega))))) hbw2 (by (focus (first | omega | (simp; done) | (simp; omega) | (simp at *; omega))))
  try clear ca fa
  try clear Ba
  have Ba := Ban
  clear Ban
  have ca := Ba.cell
  have fa := Ba.frozen
  have law2 := Ba.lt
  have Bon : Blk w2 (w1.heap.size) 26 #[.int .i64 (58 * s + 2 * l), .int .i64 (R * s + 2 * t), .slice (some ⟨w.heap.size + 1 + 1 + 1, 0, none⟩) N N] := Blk.below (by repeat (first | (with_reducible assumption) | (with_reducible exact Blk.new _ _ _) | ((with_reducible refine Blk.new_at _ _ _ ?_); (focus (first | (simp; done) | omega))) | (with_reducible refine Blk.drew ?_) | (with_reducible refine Blk.drewN ?_ _) | (with_reducible refine Blk.alloc ?_ _) | ((with_reducible refine Blk.far ?_ ?_ _); rotate_left; (focus (first | (simp; done) | (simp; omega) | omega))))) hbw2 (by (focus (first | omega | (simp; done) | (simp; omega) | (simp at *; omega))))
  try clear co fo
  try clear Bo
  have Bo := Bon
  clear Bon
  have co := Bo.cell
  have fo := Bo.frozen
  have low2 := Bo.lt
  clear cg fg ca fa co fo
  have H0 : RInv w (w.heap.size + 1 + 1 + 1) w1.heap.size (w1.heap.size + 1) L R s l t (some ⟨b, off, none⟩) n c N p w2 0 := by
    refine ⟨?_, Bg, Ba, Bo, ?_, by omega, by omega, by omega, kw2⟩
    · rw [upTo_zero]
      have := Hrow1.out
      simp at this
      exact rowIs_below (by repeat (first | (with_reducible assumption) | (with_reducible refine World.rowIs.drew ?_) | (with_reducible refine rowIs_drewN ?_ _) | (with_reducible refine World.rowIs.alloc ?_ _) | ((with_reducible refine World.rowIs.setOther ?_ ?_ _); rotate_left; (focus (first | (simp; done) | (simp; omega) | omega))))) hbw2 (by (focus (first | omega | (simp; done) | (simp; omega) | (simp at *; omega))))
    · simpa using Hrow2.out
  clear Hrow1 Hrow2 Bg Ba Bo hbw2
  go_wp2
  go_loopg [11] N (fun gk nn wr => ∃ k : Nat, k ≤ N ∧ gk = N - k ∧ nn = .int .i64 k ∧ RInv w (w.heap.size + 1 + 1 + 1) w1.heap.size (w1.heap.size + 1) L R s l t (some ⟨b, off, none⟩) n c N p wr k)
  case atStart => exact ⟨0, by omega, rfl, rfl, H0⟩
  case round =>
    obtain ⟨k, hk, rfl, rfl, hI⟩ := hrel
    clear H0
    have HI := Lib.hid hI
    obtain ⟨hrow, Bg, Ba, Bo, Bs, i1, i2, i3, hbel⟩ := hI
    have cg := Bg.cell
    have co := Bo.cell
    by_cases hlt : k < N
    · obtain ⟨X, hX⟩ : ∃ X, X = (k : Int) % (58 * s + 2 * l) := ⟨_, rfl⟩
      obtain ⟨Y, hY⟩ : ∃ Y, Y = (k : Int) / (58 * s + 2 * l) := ⟨_, rfl⟩
      have x1 : 0 ≤ X ∧ X < 58 * s + 2 * l := by rw [hX]; exact ⟨Int.emod_nonneg _ (by omega), Int.emod_lt_of_pos _ (by omega)⟩
      have y1 : 0 ≤ Y ∧ Y ≤ 252520 := by rw [hY]; exact ⟨Int.ediv_nonneg (by omega) (by omega), by have := Int.ediv_le_self (58 * s + 2 * l) (show 0 ≤ (k : Int) by omega); have := HN.out; omega⟩
      have u1 : (k : Int).tmod (58 * s + 2 * l) = X := by rw [hX]; exact Int.tmod_eq_emod_of_nonneg (by omega)
      have u2 : (k : Int).tdiv (58 * s + 2 * l) = Y := by rw [hY]; exact Int.tdiv_eq_ediv_of_nonneg (by omega)
      have u3 : ¬ 58 * s + 2 * l = 0 := by omega
      have u4 : IntKind.i64.wrap X = X := IntWalk.i64_in _ (by omega)
      have u5 : IntKind.i64.wrap Y = Y := IntWalk.i64_in _ (by omega)
      have u6 : IntKind.i64.wrap (X - l) = X - l := IntWalk.i64_in _ (by omega)
      have u7 : IntKind.i64.wrap (Y - t) = Y - t := IntWalk.i64_in _ (by omega)
      have HX := Lib.hid hX
      have HY := Lib.hid hY
      have hst := hrow.cell hlt
      have hfz := hrow.frozen k
      clear hX hY hrow Bg Ba Bo
      go_wp2
      go_quiet (fail)
      clear u1 u2 u3 u4 u5 u6 u7
      by_cases a1 : 0 ≤ X - l
      · by_cases a2 : 0 ≤ Y - t
        · by_cases a3 : X - l < 58 * s
          · by_cases a4 : Y - t < R * s
            · have q1 : 0 ≤ (Y - t) / s ∧ (Y - t) / s < R := ⟨Int.ediv_nonneg a2 (by omega), (Int.ediv_lt_iff_lt_mul (by omega)).2 a4⟩
              have q2 : 0 ≤ (X - l) / s ∧ (X - l) / s < 58 := ⟨Int.ediv_nonneg a1 (by omega), (Int.ediv_lt_iff_lt_mul (by omega)).2 a3⟩
              have hn' : (n : Int) = R * 58 := Hlen.out
              obtain ⟨i, hi⟩ : ∃ i : Nat, (i : Int) = 58 * ((Y - t) / s) + (X - l) / s := ⟨(58 * ((Y - t) / s) + (X - l) / s).toNat, by omega⟩
              have hin : (i : Int) < (n : Int) := by omega
              have hi0 : (0 : Int) ≤ (i : Int) := by omega
              have hcell : wr.cell? ⟨b, off + i, none⟩ = some (.int .u8 (p i)) := (hbel.cell (p := ⟨b, off + i, none⟩) hbA).trans (HcA.out _ (by omega))
              have hlow := Hlow.out i (by omega)
              have hpb := hp i
              have hv : 0 ≤ p i ∧ p i < L := ⟨hpb.1, hlow⟩
              obtain ⟨s1, s2, _, _⟩ := shade_tab HL.out hv
              have hsh : wr.cell? ⟨w1.heap.size + 1, (p i).toNat, none⟩ = some (.int .i64 (shadeOf L (p i))) := by
                rw [Bs.cell (i := (p i).toNat) (by omega), Int.toNat_of_nonneg hpb.1]
              have hlt2 : p i < (L.toNat : Int) := by omega
              have HD : Hid (shadeOf L (p i) = dpx L R s l t (58 * s + 2 * l) p k) := Lib.hid (by
                unfold dpx; rw [← HX.out, ← HY.out, if_pos ⟨a1, a2, a3, a4⟩, ← hi, Int.toNat_natCast])
              have v1 : (Y - t).tdiv s = (Y - t) / s := Int.tdiv_eq_ediv_of_nonneg a2
              have v2 : (X - l).tdiv s = (X - l) / s := Int.tdiv_eq_ediv_of_nonneg a1
              have v3 : ¬ s = 0 := by omega
              have v4 : IntKind.i64.wrap ((Y - t) / s) = (Y - t) / s := IntWalk.i64_in _ (by omega)
              have v5 : IntKind.i64.wrap ((X - l) / s) = (X - l) / s := IntWalk.i64_in _ (by omega)
              have v6 : IntKind.i64.wrap (58 * ((Y - t) / s)) = 58 * ((Y - t) / s) := IntWalk.i64_in _ (by omega)
              have v7 : IntKind.i64.wrap (58 * ((Y - t) / s) + (X - l) / s) = (i : Int) := by rw [hi]; exact IntWalk.i64_in _ (by omega)
              have v8 : IntKind.u8.wrap (shadeOf L (p i)) = shadeOf L (p i) := IntWalk.u8_in _ (by omega)
              clear hi hn' hlow hv q1 q2
              go_wp2
              go_region
              clear v1 v2 v3 v4 v5 v6 v7 v8
              go_wp2
              go_roundg (N - (k + 1))
              case measure => omega
              case rel =>
                refine ⟨k + 1, by omega, rfl, by go_num, ?_⟩
                exact (HI.out.drewN _).step HD.out
            · have HD : Hid (dpx L R s l t (58 * s + 2 * l) p k = 255) := Lib.hid (dpx_out (by rw [← HY.out]; omega))
              go_wp2
              go_roundg (N - (k + 1))
              case measure => omega
              case rel => exact ⟨k + 1, by omega, rfl, by go_num, (HI.out.drewN _).white HD.out⟩
          · have HD : Hid (dpx L R s l t (58 * s + 2 * l) p k = 255) := Lib.hid (dpx_out (by rw [← HX.out]; omega))
            go_wp2
            go_roundg (N - (k + 1))
            case measure => omega
            case rel => exact ⟨k + 1, by omega, rfl, by go_num, (HI.out.drewN _).white HD.out⟩
        · have HD : Hid (dpx L R s l t (58 * s + 2 * l) p k = 255) := Lib.hid (dpx_out (by rw [← HY.out]; omega))
          go_wp2
          go_roundg (N - (k + 1))
          case measure => omega
          case rel => exact ⟨k + 1, by omega, rfl, by go_num, (HI.out.drewN _).white HD.out⟩
      · have HD : Hid (dpx L R s l t (58 * s + 2 * l) p k = 255) := Lib.hid (dpx_out (by rw [← HX.out]; omega))
        go_wp2
        go_roundg (N - (k + 1))
        case measure => omega
        case rel => exact ⟨k + 1, by omega, rfl, by go_num, (HI.out.drewN _).white HD.out⟩
    · have ca := Ba.cell
      have fa := Ba.frozen
      obtain rfl : k = N := by omega
      have Hrow := Lib.hid (hrow.congr upTo_all)
      go_wp2
      refine bodyPost_ret (v := (iv (58 * s + 2 * l) (R * s + 2 * t) (some ⟨w.heap.size + 1 + 1 + 1, 0, none⟩) k k)) (by simp [results, Try.results31, go_sem, *]) rfl ?_
      refine ⟨_, rfl, by omega, ?_, (by repeat (first | (with_reducible assumption) | (with_reducible exact Below.refl _ _) | (with_reducible refine Below.drew ?_) | (with_reducible refine below_drewN ?_ _) | ((with_reducible refine Below.alloc ?_ ?_ _); rotate_left; (focus (first | exact Nat.le_refl _ | omega | (simp; done) | (simp; omega) | (simp at *; omega)))) | ((with_reducible refine Below.setCell ?_ ?_ _); rotate_left; (focus (first | exact Nat.le_refl _ | omega | (simp; done) | (simp; omega) | (simp at *; omega))))))⟩
      have := Hrow.out
      exact (by repeat (first | (with_reducible assumption) | (with_reducible refine World.rowIs.drew ?_) | (with_reducible refine rowIs_drewN ?_ _) | (with_reducible refine World.rowIs.alloc ?_ _) | ((with_reducible refine World.rowIs.setOther ?_ ?_ _); rotate_left; (focus (first | (simp; done) | (simp; omega) | omega)))))

end Go.Proofs.Ytpdjiokmafoppaa
