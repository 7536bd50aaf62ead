/- How the arguments of the laws read: from a row's reading to the words RdB, RdI, gv, iv. No program text is walked here. No conditions. -/
import Derived.Test.YtpdjiokmafoppaaImg
import Derived.ProofKit
import Derived.OpenShut
import Derived.ShutString
import Derived.ChangeOld
import Derived.Lib.SmallJoins
import Derived.Carry
namespace Go.Proofs.Ytpdjiokmafoppaa
open Go.ChangeShapes Go.WideShapes Go.ChangeAt Go.RowKit Go.Joins

theorem own : ownKnob Try.prog.godebug = none := by kernel_rfl
theorem laidOut : laidOutB Try.prog = true := by kernel_rfl

section
variable {H : Type} {enc : TypeId × Value → H} {w : World} {base : Nat} {spare : Nat → Bool} {held : Bool}

theorem flat_of {k : IntKind} {x : Addr} {zs : List Int} (h : ∀ i, i < zs.length → w.cell? (x.add i) = some (.int k (zs.getD i 0))) (hpos : 0 < zs.length) : ∃ b off, x = ⟨b, off, none⟩ := by
  obtain ⟨b, off, spot⟩ := x
  have h0 := h 0 hpos
  have : spot = none := by simpa [Addr.add] using World.cell?_spot h0
  exact ⟨b, off, by rw [this]⟩

/-- A slice of whole numbers reads as a row. -/
theorem read_ints {k : IntKind} {t e : TypeId} {n : Nat} {v : Value} {y : DataW H × List MemPlace} (ht : Try.prog.underlying t = some (.slice e)) (he : Try.prog.underlying e = some (.int k)) (hc : Try.prog.cellsOf e = 1)
    (h : DataW.trod enc Try.prog w base spare held n t [v] = some y) :
    ∃ (A : Option Addr) (len cap : Nat) (zs : List Int), v = .slice A len cap ∧ len ≤ maxLen ∧ (∀ z ∈ zs, (Lit.int k z).wf = true) ∧ Rd w A len (fun i => .int k (zs.getD i 0)) := by
  rcases open_ints ht he hc h with ⟨hcs, _⟩ | ⟨x, len, cap, zs, hcs, _, hl, hm, hz, _, hcell, hwz⟩
  · simp only [List.cons.injEq, and_true] at hcs
    exact ⟨none, 0, 0, [], hcs, Nat.zero_le _, fun _ h => (by simp at h), Rd.zero⟩
  · simp only [List.cons.injEq, and_true] at hcs
    refine ⟨some x, len, cap, zs, hcs, Nat.le_trans hl hm, hwz, fun hpos => ?_⟩
    have hlz : len ≤ zs.length := by rw [hz]; split <;> omega
    obtain ⟨b, off, rfl⟩ := flat_of hcell (by omega)
    exact ⟨b, off, rfl, fun i hi => by rw [← add_flat' b off i]; exact hcell i (by omega)⟩
where
  add_flat' (b o j : Nat) : (⟨b, o, none⟩ : Addr).add j = ⟨b, o + j, none⟩ := by unfold Addr.add; split <;> simp_all

theorem byt_of {zs : List Int} (h : ∀ z ∈ zs, (Lit.int .u8 z).wf = true) : Byt (fun i => zs.getD i 0) := by
  intro i
  have := range_u8 h i
  simpa [List.getD] using this

set_option maxRecDepth 100000 in
/-- A slice of bytes. -/
theorem read_bytes {n : Nat} {v : Value} {y : DataW H × List MemPlace} (h : DataW.trod enc Try.prog w base spare held n 22 [v] = some y) :
    ∃ (A : Option Addr) (len cap : Nat) (p : Nat → Int), v = .slice A len cap ∧ len ≤ maxLen ∧ Byt p ∧ RdB w A len p := by
  obtain ⟨A, len, cap, zs, e, hm, hz, hr⟩ := read_ints Try.underlying22 Try.underlying5 (by kernel_rfl) h
  exact ⟨A, len, cap, _, e, hm, byt_of hz, hr⟩

set_option maxRecDepth 100000 in
theorem read_int {n : Nat} {v : Value} {y : DataW H × List MemPlace} (h : DataW.trod enc Try.prog w base spare held n 3 [v] = some y) : ∃ x, v = .int .i64 x ∧ (Lit.int .i64 x).wf = true := by
  obtain ⟨x, e, _, hw⟩ := DataW.trod_int Try.underlying3 h
  simp only [List.cons.injEq, and_true] at e
  exact ⟨x, e, hw⟩

set_option maxRecDepth 100000 in
theorem read_image {r : Reach} {b0 : Nat} {v : Value} {d : DataW H} {p : List MemPlace} (hv : Value.okWide Try.prog w r b0 26 v) (h : DataW.Trod enc Try.prog w base spare held 26 v d p) :
    ∃ (W K : Int) (A : Option Addr) (len cap : Nat) (q : Nat → Int), v = iv W K A len cap ∧ len ≤ maxLen ∧ Byt q ∧ RdB w A len q := by
  obtain ⟨v0, v1, v2, y0, y1, y2, n, rfl, _, _, h0, h1, h2⟩ := open_agg3 Try.underlying26 (by kernel_rfl) (by kernel_rfl) hv h
  obtain ⟨W, rfl, _⟩ := read_int h0
  obtain ⟨K, rfl, _⟩ := read_int h1
  obtain ⟨A, len, cap, q, rfl, hm, hq, hr⟩ := read_bytes h2
  exact ⟨W, K, A, len, cap, q, rfl, hm, hq, hr⟩

set_option maxRecDepth 100000 in
theorem read_grid {r : Reach} {b0 : Nat} {v : Value} {d : DataW H} {p : List MemPlace} (hv : Value.okWide Try.prog w r b0 24 v) (h : DataW.Trod enc Try.prog w base spare held 24 v d p) :
    ∃ (L R C : Int) (A : Option Addr) (len cap : Nat) (q : Nat → Int), v = .agg #[.int .i64 L, .int .i64 R, .int .i64 C, .slice A len cap] ∧ len ≤ maxLen ∧ Byt q ∧ RdB w A len q := by
  obtain ⟨v0, v1, v2, v3, y0, y1, y2, y3, n, rfl, _, _, h0, h1, h2, h3⟩ := open_agg4 Try.underlying24 (by kernel_rfl) (by kernel_rfl) hv h
  obtain ⟨L, rfl, _⟩ := read_int h0
  obtain ⟨R, rfl, _⟩ := read_int h1
  obtain ⟨C, rfl, _⟩ := read_int h2
  obtain ⟨A, len, cap, q, rfl, hm, hq, hr⟩ := read_bytes h3
  exact ⟨L, R, C, A, len, cap, q, rfl, hm, hq, hr⟩

set_option maxRecDepth 100000 in
theorem read_num {r : Reach} {b0 : Nat} {v : Value} {d : DataW H} {p : List MemPlace} (_hv : Value.okWide Try.prog w r b0 3 v) (h : DataW.Trod enc Try.prog w base spare held 3 v d p) : ∃ x, v = .int .i64 x ∧ (Lit.int .i64 x).wf = true := by
  obtain ⟨x, rfl, _, _, hw⟩ := open_int Try.underlying3 _hv h
  exact ⟨x, rfl, hw⟩

/-- An argument that lies below the heap's end reads behind the call as it read before. -/
theorem still_reads {t : TypeId} (hr : Try.prog.readableRec t = true) (ht : t < Try.prog.types.size) {W W' : World} {v : Value} {d : DataW H} {ps : List MemPlace}
    (h : DataW.Trod enc Try.prog W 0 (fun _ => true) true t v d ps) (hb : Below W.heap.size W W') : DataW.Trod enc Try.prog W' 0 (fun b => decide (b < W.heap.size)) true t v d ps :=
  Below.trod laidOut hr ht h hb (by obtain ⟨m, hm⟩ := h; exact DataW.trod_lt m _ _ _ hm)
end

end Go.Proofs.Ytpdjiokmafoppaa
