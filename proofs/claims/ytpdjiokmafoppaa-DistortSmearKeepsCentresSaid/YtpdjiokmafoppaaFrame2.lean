/- How more arguments of the laws read: images with their capacity, lists of numbers, tears. No program text is walked here. No conditions. -/
import Derived.Test.YtpdjiokmafoppaaFrame
namespace Go.Proofs.Ytpdjiokmafoppaa
open Go.ChangeShapes Go.WideShapes Go.ChangeAt Go.RowKit Go.Joins

section
variable {H : Type} {enc : TypeId × Value → H} {w : World} {base : Nat} {spare : Nat → Bool} {held : Bool}

/-- A slice of whole numbers reads as a row, no longer than its capacity. -/
theorem read_ints2 {k : IntKind} {t e : TypeId} {n : Nat} {v : Value} {y : DataW H × List MemPlace} (ht : Try.prog.underlying t = some (.slice e)) (he : Try.prog.underlying e = some (.int k)) (hc : Try.prog.cellsOf e = 1)
    (h : DataW.trod enc Try.prog w base spare held n t [v] = some y) :
    ∃ (A : Option Addr) (len cap : Nat) (zs : List Int), v = .slice A len cap ∧ len ≤ maxLen ∧ len ≤ cap ∧ (∀ z ∈ zs, (Lit.int k z).wf = true) ∧ Rd w A len (fun i => .int k (zs.getD i 0)) := by
  rcases open_ints ht he hc h with ⟨hcs, _⟩ | ⟨x, len, cap, zs, hcs, _, hl, hm, hz, _, hcell, hwz⟩
  · simp only [List.cons.injEq, and_true] at hcs
    exact ⟨none, 0, 0, [], hcs, Nat.zero_le _, Nat.le_refl _, fun _ h => (by simp at h), Rd.zero⟩
  · simp only [List.cons.injEq, and_true] at hcs
    refine ⟨some x, len, cap, zs, hcs, Nat.le_trans hl hm, hl, hwz, fun hpos => ?_⟩
    have hlz : len ≤ zs.length := by rw [hz]; split <;> omega
    obtain ⟨b, off, rfl⟩ := flat_of hcell (by omega)
    exact ⟨b, off, rfl, fun i hi => by rw [← af b off i]; exact hcell i (by omega)⟩
where
  af (b o j : Nat) : (⟨b, o, none⟩ : Addr).add j = ⟨b, o + j, none⟩ := by unfold Addr.add; split <;> simp_all

set_option maxRecDepth 100000 in
theorem read_bytes2 {n : Nat} {v : Value} {y : DataW H × List MemPlace} (h : DataW.trod enc Try.prog w base spare held n 22 [v] = some y) :
    ∃ (A : Option Addr) (len cap : Nat) (p : Nat → Int), v = .slice A len cap ∧ len ≤ maxLen ∧ len ≤ cap ∧ Byt p ∧ RdB w A len p := by
  obtain ⟨A, len, cap, zs, e, hm, hl, hz, hr⟩ := read_ints2 Try.underlying22 Try.underlying5 (by kernel_rfl) h
  exact ⟨A, len, cap, _, e, hm, hl, byt_of hz, hr⟩

set_option maxRecDepth 100000 in
theorem read_image2 {r : Reach} {b0 : Nat} {v : Value} {d : DataW H} {p : List MemPlace} (hv : Value.okWide Try.prog w r b0 26 v) (h : DataW.Trod enc Try.prog w base spare held 26 v d p) :
    ∃ (W K : Int) (A : Option Addr) (len cap : Nat) (q : Nat → Int), v = iv W K A len cap ∧ len ≤ maxLen ∧ len ≤ cap ∧ Byt q ∧ RdB w A len q := by
  obtain ⟨v0, v1, v2, y0, y1, y2, n, rfl, _, _, h0, h1, h2⟩ := open_agg3 Try.underlying26 (by kernel_rfl) (by kernel_rfl) hv h
  obtain ⟨W, rfl, _⟩ := read_int h0
  obtain ⟨K, rfl, _⟩ := read_int h1
  obtain ⟨A, len, cap, q, rfl, hm, hl, hq, hr⟩ := read_bytes2 h2
  exact ⟨W, K, A, len, cap, q, rfl, hm, hl, hq, hr⟩

/-- All values of p are numbers of the type int. -/
def I64 (p : Nat → Int) : Prop := ∀ i, -9223372036854775808 ≤ p i ∧ p i ≤ 9223372036854775807
theorem i64_of {zs : List Int} (h : ∀ z ∈ zs, (Lit.int .i64 z).wf = true) : I64 (fun i => zs.getD i 0) := by
  intro i
  have := range_i64 h i
  simpa [List.getD] using this

set_option maxRecDepth 100000 in
theorem read_list {r : Reach} {b0 : Nat} {v : Value} {d : DataW H} {p : List MemPlace} (hv : Value.okWide Try.prog w r b0 52 v) (h : DataW.Trod enc Try.prog w base spare held 52 v d p) :
    ∃ (A : Option Addr) (len cap : Nat) (q : Nat → Int), v = .slice A len cap ∧ len ≤ maxLen ∧ I64 q ∧ RdI w A len q := by
  obtain ⟨fuel, hf⟩ := h
  obtain ⟨a, l, c, rfl⟩ := okWide_slice Try.underlying52 hv
  simp only [Value.cells] at hf
  obtain ⟨A, len, cap, zs, e, hm, hl, hz, hr⟩ := read_ints2 Try.underlying52 Try.underlying3 (by kernel_rfl) hf
  exact ⟨A, len, cap, _, e, hm, i64_of hz, hr⟩

end
end Go.Proofs.Ytpdjiokmafoppaa
