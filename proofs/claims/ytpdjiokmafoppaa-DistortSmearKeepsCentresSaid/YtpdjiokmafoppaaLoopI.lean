/- What holds in a loop that fills a row: the row, blocks that no store touches, and Below. Plain. -/
import Derived.Test.YtpdjiokmafoppaaRMS
namespace Go.Proofs.Ytpdjiokmafoppaa
open Go.RowKit

/-- A row g of bytes is being filled; the blocks bs are as they were; nothing of w is turned. -/
structure LI (w : World) (g N : Nat) (F : Nat → Value) (bs : List (Nat × TypeId × Array Value)) (wr : World) : Prop where
  row : wr.rowIs g 5 N F
  blk : ∀ x ∈ bs, Blk wr x.1 x.2.1 x.2.2 ∧ x.1 ≠ g
  low : w.heap.size ≤ g
  bel : Below w.heap.size w wr
section
variable {w wr w4 : World} {g N k : Nat} {F f r : Nat → Value} {bs : List (Nat × TypeId × Array Value)} {v : Value}
theorem LI.mono (h : LI w g N F bs wr) (hb : Below wr.heap.size wr w4) : LI w g N F bs w4 :=
  ⟨rowIs_below h.row hb h.row.lt, fun x hx => ⟨(h.blk x hx).1.below hb (h.blk x hx).1.lt, (h.blk x hx).2⟩, h.low, h.bel.trans (hb.mono h.bel.size)⟩
theorem LI.congr {G : Nat → Value} (h : LI w g N F bs wr) (e : ∀ i, i < N → F i = G i) : LI w g N G bs wr := ⟨h.row.congr e, h.blk, h.low, h.bel⟩
theorem LI.set' (h : LI w g N F bs wr) (k : Nat) (v : Value) : LI w g N (fun j => if j = k then v else F j) bs (wr.setCell ⟨g, k, none⟩ v) :=
  ⟨h.row.set k v, fun x hx => ⟨(h.blk x hx).1.far (h.blk x hx).2 _, (h.blk x hx).2⟩, h.low, h.bel.setCell h.low _⟩
theorem LI.set (h : LI w g N F bs wr) (hb : Below wr.heap.size wr w4) (k : Nat) (v : Value) : LI w g N (fun j => if j = k then v else F j) bs (w4.setCell ⟨g, k, none⟩ v) := (h.mono hb).set' k v
theorem LI.step (h : LI w g N (upTo k f r) bs wr) (hb : Below wr.heap.size wr w4) (hv : v = f k) : LI w g N (upTo (k + 1) f r) bs (w4.setCell ⟨g, k, none⟩ v) := by
  have := h.set hb k v
  rwa [upTo_step hv] at this
theorem LI.next (h : LI w g N (upTo k f r) bs wr) (hb : Below wr.heap.size wr w4) (hv : r k = f k) : LI w g N (upTo (k + 1) f r) bs w4 := by
  refine (h.mono hb).congr fun i _ => ?_
  unfold upTo
  by_cases h1 : i < k
  · rw [if_pos h1, if_pos (by omega)]
  · by_cases h2 : i = k
    · subst h2; rw [if_neg (by omega), if_pos (by omega), hv]
    · rw [if_neg h1, if_neg (by omega)]
theorem LI.b (h : LI w g N F bs wr) {b : Nat} {t : TypeId} {cs : Array Value} (hm : (b, t, cs) ∈ bs) : Blk wr b t cs := (h.blk _ hm).1
end

/-- Remainder and quotient at a pixel's number. -/
theorem pix_bd {W H : Int} {n k : Nat} (hi : ImgOk W H n) (hk : k < n) : (0 ≤ (k : Int) % W ∧ (k : Int) % W < W) ∧ (0 ≤ (k : Int) / W ∧ (k : Int) / W < H) ∧ (k : Int) / W * W + (k : Int) % W = k ∧ (k : Int) ≤ 409600 ∧ n ≤ 409600 := by
  have h1 := hi.w1
  have h2 := mul_bd ⟨hi.w1, hi.w2⟩ ⟨hi.h1, hi.h2⟩
  have h3 := hi.len
  refine ⟨⟨Int.emod_nonneg _ (by omega), Int.emod_lt_of_pos _ (by omega)⟩, ⟨Int.ediv_nonneg (by omega) (by omega), (Int.ediv_lt_iff_lt_mul (by omega)).2 ?_⟩, ?_, ?_, ?_⟩
  · rw [Int.mul_comm]; omega
  · have := Int.mul_ediv_add_emod (k : Int) W
    rw [Int.mul_comm]; exact this
  · omega
  · omega

end Go.Proofs.Ytpdjiokmafoppaa
