/- Contracts of the functions that make an image: White, slices.Repeat of one byte, blank, copyOf. Conditions: the number of pixels is at most 2^30. -/
import Derived.Test.YtpdjiokmafoppaaImg
import Derived.Laws.CopyOwn
import Derived.Laws.BitsAllLaws
namespace Go.Proofs.Ytpdjiokmafoppaa
open Go.RowKit

/-- Block g is just the cells cs of the type t, none frozen. -/
def Blk (w : World) (g : Nat) (t : TypeId) (cs : Array Value) : Prop := w.heap[g]? = some (.cells cs t (0, 0))
section
variable {w w' : World} {g : Nat} {t : TypeId} {cs : Array Value}
theorem Blk.lt (h : Blk w g t cs) : g < w.heap.size := by
  rcases Nat.lt_or_ge g w.heap.size with hlt | hge
  · exact hlt
  · unfold Blk at h; rw [Array.getElem?_eq_none hge] at h; cases h
theorem Blk.cell (h : Blk w g t cs) (i : Nat) : w.cell? ⟨g, i, none⟩ = cs[i]? := cell_of_row w g i cs t (0, 0) h
theorem Blk.frozen (h : Blk w g t cs) (i : Nat) : w.frozen? ⟨g, i, none⟩ = false := by
  unfold Blk at h
  simp [World.frozen?, h]
theorem Blk.new (w : World) (t : TypeId) (cs : Array Value) : Blk (w.alloc (.cells cs t)) w.heap.size t cs := heap_alloc_new w _
theorem Blk.new_at (w : World) (t : TypeId) (cs : Array Value) {g : Nat} (h : g = w.heap.size) : Blk (w.alloc (.cells cs t)) g t cs := by subst h; exact heap_alloc_new w _
theorem Blk.drew (h : Blk w g t cs) : Blk w.drew g t cs := h
theorem Blk.drewN (h : Blk w g t cs) (n : Nat) : Blk (w.drewN n) g t cs := h
theorem Blk.alloc (h : Blk w g t cs) (o : Obj) : Blk (w.alloc o) g t cs := (Below.heap_alloc w o g h.lt).trans h
theorem Blk.set_ (h : Blk w g t cs) (i : Nat) (u : Value) : Blk (w.setCell ⟨g, i, none⟩ u) g t (cs.setIfInBounds i u) := by
  unfold Blk at h ⊢
  simp [World.setCell, Array.getElem?_modify, h]
theorem Blk.far (h : Blk w g t cs) {p : Addr} (hp : g ≠ p.block) (u : Value) : Blk (w.setCell p u) g t cs := (Below.heap_setCell w p u g hp).trans h
theorem Blk.below {B : Nat} (h : Blk w g t cs) (hb : Below B w w') (hg : g < B) : Blk w' g t cs := (hb.block g hg).trans h
end
theorem rowIs_drewN {w : World} {b : Nat} {t : TypeId} {n : Nat} {f : Nat → Value} (h : w.rowIs b t n f) (k : Nat) : (w.drewN k).rowIs b t n f := h
theorem rowIs_below {w w' : World} {b : Nat} {t : TypeId} {n : Nat} {f : Nat → Value} {B : Nat} (h : w.rowIs b t n f) (hb : Below B w w') (hg : b < B) : w'.rowIs b t n f := h.of_block (hb.block b hg)

/-- The first k values are those of f, the others those of g. -/
def upTo (k : Nat) (f g : Nat → Value) : Nat → Value := fun j => if j < k then f j else g j
theorem upTo_zero (f g : Nat → Value) : upTo 0 f g = g := by funext j; simp [upTo]
theorem upTo_step {k : Nat} {f g : Nat → Value} {v : Value} (hv : v = f k) : (fun j => if j = k then v else upTo k f g j) = upTo (k + 1) f g := by
  funext j
  unfold upTo
  by_cases h : j = k
  · subst h; simp [hv]
  · rw [if_neg h]
    by_cases h2 : j < k
    · rw [if_pos h2, if_pos (by omega)]
    · rw [if_neg h2, if_neg (by omega)]
theorem upTo_all {n : Nat} {f g : Nat → Value} : ∀ i, i < n → upTo n f g i = f i := fun i hi => by simp [upTo, hi]

theorem Try.info5 : (Try.prog.info? 5).map (fun i => (i.zero, i.size, i.bytes)) = some (some (.int .u8 0), 1, 1) := by kernel_rfl

/-- A store of the next value into a row that is being filled. -/
theorem row_step {w : World} {g : Nat} {t : TypeId} {n k : Nat} {f r : Nat → Value} {v : Value} (h : w.rowIs g t n (upTo k f r)) (hv : v = f k) : (w.setCell ⟨g, k, none⟩ v).rowIs g t n (upTo (k + 1) f r) := by
  have := h.set k v
  rwa [upTo_step hv] at this

theorem made_at (w : World) (z : Value) (n : Nat) (t : TypeId) {g : Nat} (h : g = w.heap.size) : (w.alloc (.cells (madeCells #[z] n) t)).rowIs g t n (fun _ => z) := by
  subst h; exact World.rowIs_made w z n t

set_option maxHeartbeats 1000000 in
theorem White_any (W H : Int) (N : Nat) (hN : (N : Int) = W * H) (hb : N ≤ 1073741824) (w : World) :
    Calls Try.prog 98 #[.int .i64 W, .int .i64 H] w fun e w' => e = .returned (iv W H (some ⟨w.heap.size + 1, 0, none⟩) N N) ∧ w'.rowIs (w.heap.size + 1) 5 N (fun _ => .int .u8 255) ∧ Below w.heap.size w w' := by
  have hmk : ∀ w, (Instr.makeSlice 22 (.int .i64 (W * H)) (.int .i64 (W * H))).run Try.prog w = .ok (.slice (some ⟨w.heap.size, 0, none⟩) N N) (w.alloc (.cells (madeCells #[.int .u8 0] N) 5)) := by
    rw [← hN]; exact run_make_row' (P := Try.prog) 22 5 (.int .u8 0) 1 Try.underlying22 Try.info5 rfl .i64 .i64 N (by omega) (by omega)
  have b1 : 0 ≤ W * H := by omega
  have b2 : W * H ≤ 1073741824 := by omega
  clear hN
  go_enter Try.func98, Try.ntmps98
  go_wp2
  go_loopw [6] (fun i wr => ∃ k : Nat, k ≤ N ∧ i = .int .i64 k ∧ wr.rowIs (w.heap.size + 1) 5 N (upTo k (fun _ => .int .u8 255) (fun _ => .int .u8 0)) ∧ Blk wr (w.heap.size + 2) 26 #[.int .i64 W, .int .i64 H, .slice (some ⟨w.heap.size + 1, 0, none⟩) N N] ∧
      Blk wr w.heap.size 26 #[.int .i64 0, .int .i64 0, .slice none 0 0] ∧ Below w.heap.size w wr) (fun i _ => N - (intOf i).toNat)
  case atStart => exact ⟨0, Nat.zero_le _, rfl, by rw [upTo_zero]; exact (made_at _ _ _ _ (by simp)).alloc _, Blk.new_at _ _ _ (by simp), ((Blk.new _ _ _).alloc _).alloc _, (by repeat (first | (with_reducible assumption) | (with_reducible exact Below.refl _ _) | (with_reducible refine Below.drew ?_) | (with_reducible refine below_drewN ?_ _) | ((with_reducible refine Below.alloc ?_ ?_ _); rotate_left; (focus (first | exact Nat.le_refl _ | omega | (simp; done) | (simp; omega) | (simp at *; omega)))) | ((with_reducible refine Below.setCell ?_ ?_ _); rotate_left; (focus (first | exact Nat.le_refl _ | omega | (simp; done) | (simp; omega) | (simp at *; omega))))))⟩
  case round =>
    obtain ⟨k, hk, rfl, hrow, hB, hR, hbel⟩ := hrel
    have c0 := hB.cell
    by_cases hlt : k < N
    · have c1 := hrow.cell hlt
      have f1 := hrow.frozen k
      go_wp2
      go_roundw
      case rel => exact ⟨k + 1, by omega, by go_num, row_step hrow rfl, hB.far (by simp) _, hR.far (by simp) _, (by repeat (first | (with_reducible assumption) | (with_reducible exact Below.refl _ _) | (with_reducible refine Below.drew ?_) | (with_reducible refine below_drewN ?_ _) | ((with_reducible refine Below.alloc ?_ ?_ _); rotate_left; (focus (first | exact Nat.le_refl _ | omega | (simp; done) | (simp; omega) | (simp at *; omega)))) | ((with_reducible refine Below.setCell ?_ ?_ _); rotate_left; (focus (first | exact Nat.le_refl _ | omega | (simp; done) | (simp; omega) | (simp at *; omega))))))⟩
      case measure => simp [intOf]; omega
    · have c1 := hR.cell
      have f1 := hR.frozen
      obtain rfl : k = N := by omega
      go_wp2
      refine bodyPost_ret (v := (iv W H (some ⟨w.heap.size + 1, 0, none⟩) k k)) (by simp [results, Try.results98, go_sem, *]) rfl ?_
      exact ⟨rfl, (((hrow.congr upTo_all).setOther (by simp) _).setOther (by simp) _).setOther (by simp) _, (by repeat (first | (with_reducible assumption) | (with_reducible exact Below.refl _ _) | (with_reducible refine Below.drew ?_) | (with_reducible refine below_drewN ?_ _) | ((with_reducible refine Below.alloc ?_ ?_ _); rotate_left; (focus (first | exact Nat.le_refl _ | omega | (simp; done) | (simp; omega) | (simp at *; omega)))) | ((with_reducible refine Below.setCell ?_ ?_ _); rotate_left; (focus (first | exact Nat.le_refl _ | omega | (simp; done) | (simp; omega) | (simp at *; omega))))))⟩

/-! ### copy, in the words 'rowIs' and 'Rd' -/
theorem add_flat (b o j : Nat) : (⟨b, o, none⟩ : Addr).add j = ⟨b, o + j, none⟩ := by unfold Addr.add; split <;> simp_all
/-- A row laid whole: block g is turned, all else is as it was. -/
structure OnlyRow (g : Nat) (w w' : World) : Prop where
  os : w'.os = w.os
  tape : w'.tape = w.tape
  output : w'.output = w.output
  size : w'.heap.size = w.heap.size
  block : ∀ k, k ≠ g → w'.heap[k]? = w.heap[k]?
theorem OnlyRow.refl (g : Nat) (w : World) : OnlyRow g w w := ⟨rfl, rfl, rfl, rfl, fun _ _ => rfl⟩
theorem OnlyRow.below {B g : Nat} {w0 w w' : World} (h : OnlyRow g w w') (hb : Below B w0 w) (hg : B ≤ g) : Below B w0 w' :=
  hb.trans ⟨h.os, h.tape, h.output, by rw [h.size]; exact Nat.le_refl _, fun k hk => h.block k (by omega)⟩
theorem OnlyRow.blk {g g' : Nat} {w w' : World} {t : TypeId} {cs : Array Value} (h : OnlyRow g w w') (hb : Blk w g' t cs) (hne : g' ≠ g) : Blk w' g' t cs := (h.block g' hne).trans hb
theorem OnlyRow.rd {g : Nat} {w w' : World} {A : Option Addr} {n : Nat} {f : Nat → Value} (h : OnlyRow g w w') (hr : Rd w A n f) (hne : ∀ b off, A = some ⟨b, off, none⟩ → b ≠ g) : Rd w' A n f := by
  intro hn
  obtain ⟨b, off, e, hc⟩ := hr hn
  exact ⟨b, off, e, fun i hi => (World.cell?_of_block (w := w) (h.block b (hne b off e))).trans (hc i hi)⟩

theorem copy_row {w : World} {g N off dLen dCap n c m : Nat} {t : TypeId} {f r : Nat → Value} {A : Option Addr} {dT sT elem ty : TypeId} (hu : Try.prog.underlying dT = some (.slice elem)) (hsz : (Try.prog.info? elem).map (·.size) = some 1)
    (h : w.rowIs g t N f) (hr : Rd w A n r) (hm : m = min n dLen) (hfit : off + m ≤ N) (h1 : ∀ i, i < m → (r i).oneCell' = true) :
    ∃ w', (Builtin.copy_ #[dT, sT] ty #[.slice (some ⟨g, off, none⟩) dLen dCap, .slice A n c]).run Try.prog w = .ok (.int .i64 (m : Int)) w' ∧
      w'.rowIs g t N (fun j => if off ≤ j ∧ j < off + m then r (j - off) else f j) ∧ OnlyRow g w w' := by
  rcases Nat.eq_zero_or_pos m with rfl | hpos
  · refine ⟨w, run_copy_none (P := Try.prog) w dT sT ty elem _ A dLen dCap n c hu hsz hm.symm, h.congr (fun i _ => ?_), OnlyRow.refl _ _⟩
    rw [if_neg (by omega)]
  · obtain ⟨b, o, rfl, hc⟩ := hr (by omega)
    obtain ⟨cur, hg, hN, hcur⟩ := h
    have hlen : ((List.range m).map r).length = n.min dLen := by rw [List.length_map, List.length_range]; exact hm
    have hrun := run_copy_row (P := Try.prog) w dT sT ty elem g off dLen dCap ⟨b, o, none⟩ n c cur t ((List.range m).map r) hu hsz hg hlen
      (fun j v hj => by
        have hjm : j < m := by
          have := (List.getElem?_eq_some_iff.1 hj).1
          simpa using this
        simp [hjm] at hj
        rw [add_flat, hc j (by omega), hj])
      (by simp; omega) (fun v hv => by
        obtain ⟨i, hi, rfl⟩ := List.mem_map.1 hv
        exact h1 i (List.mem_range.1 hi))
    simp only [List.length_map, List.length_range] at hrun
    refine ⟨_, hrun, ?_, ?_⟩
    · refine ⟨_, setRow_heap w g _ _ t _ hg, ?_, fun i hi => ?_⟩
      · simp; omega
      · simp only [List.getElem?_toArray]
        by_cases hin : i < off
        · rw [List.getElem?_append_left (by simp; omega), List.getElem?_append_left (by simp; omega), List.getElem?_take_of_lt hin, if_neg (by omega)]
          simpa using hcur i hi
        · by_cases hin2 : i < off + m
          · rw [List.getElem?_append_left (by simp; omega), List.getElem?_append_right (by simp; omega), if_pos ⟨by omega, hin2⟩]
            have e : (List.take off cur.toList).length = off := by simp; omega
            rw [e, List.getElem?_map, List.getElem?_range (by omega)]
            rfl
          · rw [List.getElem?_append_right (by simp; omega), if_neg (by omega), List.getElem?_drop]
            have e : (List.take off cur.toList ++ List.map r (List.range m)).length = off + m := by simp; omega
            rw [e, show off + m + (i - (off + m)) = i from by omega]
            simpa using hcur i hi
    · exact ⟨rfl, rfl, rfl, by simp [World.setRow], fun k hk => setRow_other w g k _ hk⟩

theorem and32 (y : Int) (h0 : 0 ≤ y) (h1 : y ≤ 1073741824) : bits .and .u64 y 4294967295 = y := by
  rw [u64_and y 4294967295 h0 (by omega) (by omega) (by omega), show (4294967295 : Int).toNat = 2 ^ 32 - 1 from rfl, Nat.and_two_pow_sub_one_eq_mod, Nat.mod_eq_of_lt (by omega)]
  omega

set_option maxHeartbeats 1000000 in
theorem Mul64_one (y : Int) (h0 : 0 ≤ y) (h1 : y ≤ 1073741824) (w : World) :
    Calls Try.prog 176 #[.int .u64 1, .int .u64 y] w fun e w' => e = .returned (.tuple #[.int .u64 0, .int .u64 y]) ∧ w = w' := by
  have e1 := and32 1 (by omega) (by omega)
  have e0 := and32 0 (by omega) (by omega)
  have ey := and32 y h0 h1
  have ed : y / 4294967296 = 0 := by omega
  go_enter Try.func176, Try.ntmps176
  go_wp2
  go_ret2
  exact ⟨rfl, rfl⟩

set_option maxHeartbeats 1000000 in
theorem Mul_one (y : Int) (h0 : 0 ≤ y) (h1 : y ≤ 1073741824) (w : World) :
    Calls Try.prog 155 #[.int .u64 1, .int .u64 y] w fun e w' => e = .returned (.tuple #[.int .u64 0, .int .u64 y]) ∧ w = w' := by
  go_enter Try.func155, Try.ntmps155
  go_wp2_with fail
  refine (Mul64_one y h0 h1 _).mono ?_
  rintro e w' ⟨rfl, rfl⟩
  go_wp2
  go_ret2
  exact ⟨rfl, rfl⟩

theorem Try.size5 : (Try.prog.info? 5).map (·.size) = some 1 := by kernel_rfl

end Go.Proofs.Ytpdjiokmafoppaa
